/- Part of a proof: texts LB3 of the engine and what is proved with it; nothing is assumed. -/
import Derived.Test.YtgdefgnmabjmcaaGreatDoorLaw
set_option linter.unusedVariables false
set_option linter.unusedSimpArgs false
set_option maxRecDepth 100000
namespace Go.R3.LB
open Go.Eng Go.R3
theorem case_0_1_false (z0 z1 : Int) : t_f4 (lpF 600) G0 (runS (FS (lpF 600) G0) 600) z0 z1 false 0 1 .e 0 isT = True := by kernel_rfl
theorem case_0_5_false (z0 z1 : Int) : t_f4 (lpF 600) G0 (runS (FS (lpF 600) G0) 600) z0 z1 false 0 5 .e 0 isT = True := by kernel_rfl
theorem case_1_1_false (z0 z1 : Int) : t_f4 (lpF 600) G0 (runS (FS (lpF 600) G0) 600) z0 z1 false 1 1 .e 0 isT = True := by kernel_rfl
theorem case_1_5_false (z0 z1 : Int) : t_f4 (lpF 600) G0 (runS (FS (lpF 600) G0) 600) z0 z1 false 1 5 .e 0 isT = True := by kernel_rfl
theorem case_2_1_false (z0 z1 : Int) : t_f4 (lpF 600) G0 (runS (FS (lpF 600) G0) 600) z0 z1 false 2 1 .e 0 isT = True := by kernel_rfl
theorem case_2_5_false (z0 z1 : Int) : t_f4 (lpF 600) G0 (runS (FS (lpF 600) G0) 600) z0 z1 false 2 5 .e 0 isT = True := by kernel_rfl
theorem case_3_1_false (z0 z1 : Int) : t_f4 (lpF 600) G0 (runS (FS (lpF 600) G0) 600) z0 z1 false 3 1 .e 0 isT = True := by kernel_rfl
theorem case_3_5_false (z0 z1 : Int) : t_f4 (lpF 600) G0 (runS (FS (lpF 600) G0) 600) z0 z1 false 3 5 .e 0 isT = True := by kernel_rfl
theorem case_4_1_false (z0 z1 : Int) : t_f4 (lpF 600) G0 (runS (FS (lpF 600) G0) 600) z0 z1 false 4 1 .e 0 isT = True := by kernel_rfl
theorem case_4_5_false (z0 z1 : Int) : t_f4 (lpF 600) G0 (runS (FS (lpF 600) G0) 600) z0 z1 false 4 5 .e 0 isT = True := by kernel_rfl
theorem case_5_1_false (z0 z1 : Int) : t_f4 (lpF 600) G0 (runS (FS (lpF 600) G0) 600) z0 z1 false 5 1 .e 0 isT = True := by kernel_rfl
theorem case_5_5_false (z0 z1 : Int) : t_f4 (lpF 600) G0 (runS (FS (lpF 600) G0) 600) z0 z1 false 5 5 .e 0 isT = True := by kernel_rfl
theorem case_6_1_false (z0 z1 : Int) : t_f4 (lpF 600) G0 (runS (FS (lpF 600) G0) 600) z0 z1 false 6 1 .e 0 isT = True := by kernel_rfl
theorem case_6_5_false (z0 z1 : Int) : t_f4 (lpF 600) G0 (runS (FS (lpF 600) G0) 600) z0 z1 false 6 5 .e 0 isT = True := by kernel_rfl
theorem case_7_1_false (z0 z1 : Int) : t_f4 (lpF 600) G0 (runS (FS (lpF 600) G0) 600) z0 z1 false 7 1 .e 0 isT = True := by kernel_rfl
theorem case_7_5_false (z0 z1 : Int) : t_f4 (lpF 600) G0 (runS (FS (lpF 600) G0) 600) z0 z1 false 7 5 .e 0 isT = True := by kernel_rfl
end Go.R3.LB

