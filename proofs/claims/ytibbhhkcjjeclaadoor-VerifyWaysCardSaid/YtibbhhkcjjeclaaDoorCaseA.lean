/- Part of a proof: texts W1Ways0 W1Ways1 W1Ways2 of the engine and what is proved with it; nothing is assumed. -/
import Derived.Test.YtibbhhkcjjeclaaDoorCase
namespace Go.A1.Ways
open Go.Eng
set_option maxRecDepth 100000
theorem case_0_0 (a b : Int) : exFun (alt 0 0) G0 (run F G0 200 200) 200 [.int .i64 a 0, .int .i64 b 0] .e 0 isT = True := by kernel_rfl
theorem case_0_1 (a b : Int) : exFun (alt 0 1) G0 (run F G0 200 200) 200 [.int .i64 a 0, .int .i64 b 0] .e 0 isT = True := by kernel_rfl
theorem case_0_2 (a b : Int) : exFun (alt 0 2) G0 (run F G0 200 200) 200 [.int .i64 a 0, .int .i64 b 0] .e 0 isT = True := by kernel_rfl
theorem case_0_3 (a b : Int) : exFun (alt 0 3) G0 (run F G0 200 200) 200 [.int .i64 a 0, .int .i64 b 0] .e 0 isT = True := by kernel_rfl
theorem case_0_4 (a b : Int) : exFun (alt 0 4) G0 (run F G0 200 200) 200 [.int .i64 a 0, .int .i64 b 0] .e 0 isT = True := by kernel_rfl
theorem case_0_5 (a b : Int) : exFun (alt 0 5) G0 (run F G0 200 200) 200 [.int .i64 a 0, .int .i64 b 0] .e 0 isT = True := by kernel_rfl
end Go.A1.Ways

namespace Go.A1.Ways
open Go.Eng
set_option maxRecDepth 100000
theorem case_1_0 (a b : Int) : exFun (alt 1 0) G0 (run F G0 200 200) 200 [.int .i64 a 0, .int .i64 b 0] .e 0 isT = True := by kernel_rfl
theorem case_1_1 (a b : Int) : exFun (alt 1 1) G0 (run F G0 200 200) 200 [.int .i64 a 0, .int .i64 b 0] .e 0 isT = True := by kernel_rfl
theorem case_1_2 (a b : Int) : exFun (alt 1 2) G0 (run F G0 200 200) 200 [.int .i64 a 0, .int .i64 b 0] .e 0 isT = True := by kernel_rfl
theorem case_1_3 (a b : Int) : exFun (alt 1 3) G0 (run F G0 200 200) 200 [.int .i64 a 0, .int .i64 b 0] .e 0 isT = True := by kernel_rfl
theorem case_1_4 (a b : Int) : exFun (alt 1 4) G0 (run F G0 200 200) 200 [.int .i64 a 0, .int .i64 b 0] .e 0 isT = True := by kernel_rfl
theorem case_1_5 (a b : Int) : exFun (alt 1 5) G0 (run F G0 200 200) 200 [.int .i64 a 0, .int .i64 b 0] .e 0 isT = True := by kernel_rfl
end Go.A1.Ways

namespace Go.A1.Ways
open Go.Eng
set_option maxRecDepth 100000
theorem case_2_0 (a b : Int) : exFun (alt 2 0) G0 (run F G0 200 200) 200 [.int .i64 a 0, .int .i64 b 0] .e 0 isT = True := by kernel_rfl
theorem case_2_1 (a b : Int) : exFun (alt 2 1) G0 (run F G0 200 200) 200 [.int .i64 a 0, .int .i64 b 0] .e 0 isT = True := by kernel_rfl
theorem case_2_2 (a b : Int) : exFun (alt 2 2) G0 (run F G0 200 200) 200 [.int .i64 a 0, .int .i64 b 0] .e 0 isT = True := by kernel_rfl
theorem case_2_3 (a b : Int) : exFun (alt 2 3) G0 (run F G0 200 200) 200 [.int .i64 a 0, .int .i64 b 0] .e 0 isT = True := by kernel_rfl
theorem case_2_4 (a b : Int) : exFun (alt 2 4) G0 (run F G0 200 200) 200 [.int .i64 a 0, .int .i64 b 0] .e 0 isT = True := by kernel_rfl
theorem case_2_5 (a b : Int) : exFun (alt 2 5) G0 (run F G0 200 200) 200 [.int .i64 a 0, .int .i64 b 0] .e 0 isT = True := by kernel_rfl
end Go.A1.Ways

