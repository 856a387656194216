/- Part of a proof: texts W1Ways3 W1Ways4 W1Ways5 of the engine and what is proved with it; nothing is assumed. -/
import Derived.Test.YtibbhhkcjjeclaaDoorCase
namespace Go.A1.Ways
open Go.Eng
set_option maxRecDepth 100000
theorem case_3_0 (a b : Int) : exFun (alt 3 0) G0 (run F G0 200 200) 200 [.int .i64 a 0, .int .i64 b 0] .e 0 isT = True := by kernel_rfl
theorem case_3_1 (a b : Int) : exFun (alt 3 1) G0 (run F G0 200 200) 200 [.int .i64 a 0, .int .i64 b 0] .e 0 isT = True := by kernel_rfl
theorem case_3_2 (a b : Int) : exFun (alt 3 2) G0 (run F G0 200 200) 200 [.int .i64 a 0, .int .i64 b 0] .e 0 isT = True := by kernel_rfl
theorem case_3_3 (a b : Int) : exFun (alt 3 3) G0 (run F G0 200 200) 200 [.int .i64 a 0, .int .i64 b 0] .e 0 isT = True := by kernel_rfl
theorem case_3_4 (a b : Int) : exFun (alt 3 4) G0 (run F G0 200 200) 200 [.int .i64 a 0, .int .i64 b 0] .e 0 isT = True := by kernel_rfl
theorem case_3_5 (a b : Int) : exFun (alt 3 5) G0 (run F G0 200 200) 200 [.int .i64 a 0, .int .i64 b 0] .e 0 isT = True := by kernel_rfl
end Go.A1.Ways

namespace Go.A1.Ways
open Go.Eng
set_option maxRecDepth 100000
theorem case_4_0 (a b : Int) : exFun (alt 4 0) G0 (run F G0 200 200) 200 [.int .i64 a 0, .int .i64 b 0] .e 0 isT = True := by kernel_rfl
theorem case_4_1 (a b : Int) : exFun (alt 4 1) G0 (run F G0 200 200) 200 [.int .i64 a 0, .int .i64 b 0] .e 0 isT = True := by kernel_rfl
theorem case_4_2 (a b : Int) : exFun (alt 4 2) G0 (run F G0 200 200) 200 [.int .i64 a 0, .int .i64 b 0] .e 0 isT = True := by kernel_rfl
theorem case_4_3 (a b : Int) : exFun (alt 4 3) G0 (run F G0 200 200) 200 [.int .i64 a 0, .int .i64 b 0] .e 0 isT = True := by kernel_rfl
theorem case_4_4 (a b : Int) : exFun (alt 4 4) G0 (run F G0 200 200) 200 [.int .i64 a 0, .int .i64 b 0] .e 0 isT = True := by kernel_rfl
theorem case_4_5 (a b : Int) : exFun (alt 4 5) G0 (run F G0 200 200) 200 [.int .i64 a 0, .int .i64 b 0] .e 0 isT = True := by kernel_rfl
end Go.A1.Ways

namespace Go.A1.Ways
open Go.Eng
set_option maxRecDepth 100000
theorem case_5_0 (a b : Int) : exFun (alt 5 0) G0 (run F G0 200 200) 200 [.int .i64 a 0, .int .i64 b 0] .e 0 isT = True := by kernel_rfl
theorem case_5_1 (a b : Int) : exFun (alt 5 1) G0 (run F G0 200 200) 200 [.int .i64 a 0, .int .i64 b 0] .e 0 isT = True := by kernel_rfl
theorem case_5_2 (a b : Int) : exFun (alt 5 2) G0 (run F G0 200 200) 200 [.int .i64 a 0, .int .i64 b 0] .e 0 isT = True := by kernel_rfl
theorem case_5_3 (a b : Int) : exFun (alt 5 3) G0 (run F G0 200 200) 200 [.int .i64 a 0, .int .i64 b 0] .e 0 isT = True := by kernel_rfl
theorem case_5_4 (a b : Int) : exFun (alt 5 4) G0 (run F G0 200 200) 200 [.int .i64 a 0, .int .i64 b 0] .e 0 isT = True := by kernel_rfl
theorem case_5_5 (a b : Int) : exFun (alt 5 5) G0 (run F G0 200 200) 200 [.int .i64 a 0, .int .i64 b 0] .e 0 isT = True := by kernel_rfl
end Go.A1.Ways

