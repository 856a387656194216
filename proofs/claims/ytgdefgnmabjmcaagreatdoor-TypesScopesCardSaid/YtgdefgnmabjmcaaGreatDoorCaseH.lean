/- Part of a proof: texts LB7 of the engine and what is proved with it; nothing is assumed. -/
import Derived.Test.YtgdefgnmabjmcaaGreatDoorLaw
set_option linter.unusedVariables false
set_option linter.unusedSimpArgs false
set_option maxRecDepth 100000
namespace Go.R3.LB
open Go.Eng Go.R3
theorem case_0_3_false (z0 z1 : Int) : t_f4 (lpF 600) G0 (runS (FS (lpF 600) G0) 600) z0 z1 false 0 3 .e 0 isT = True := by kernel_rfl
theorem case_0_7_false (z0 z1 : Int) : t_f4 (lpF 600) G0 (runS (FS (lpF 600) G0) 600) z0 z1 false 0 7 .e 0 isT = True := by kernel_rfl
theorem case_1_3_false (z0 z1 : Int) : t_f4 (lpF 600) G0 (runS (FS (lpF 600) G0) 600) z0 z1 false 1 3 .e 0 isT = True := by kernel_rfl
theorem case_1_7_false (z0 z1 : Int) : t_f4 (lpF 600) G0 (runS (FS (lpF 600) G0) 600) z0 z1 false 1 7 .e 0 isT = True := by kernel_rfl
theorem case_2_3_false (z0 z1 : Int) : t_f4 (lpF 600) G0 (runS (FS (lpF 600) G0) 600) z0 z1 false 2 3 .e 0 isT = True := by kernel_rfl
theorem case_2_7_false (z0 z1 : Int) : t_f4 (lpF 600) G0 (runS (FS (lpF 600) G0) 600) z0 z1 false 2 7 .e 0 isT = True := by kernel_rfl
theorem case_3_3_false (z0 z1 : Int) : t_f4 (lpF 600) G0 (runS (FS (lpF 600) G0) 600) z0 z1 false 3 3 .e 0 isT = True := by kernel_rfl
theorem case_3_7_false (z0 z1 : Int) : t_f4 (lpF 600) G0 (runS (FS (lpF 600) G0) 600) z0 z1 false 3 7 .e 0 isT = True := by kernel_rfl
theorem case_4_3_false (z0 z1 : Int) : t_f4 (lpF 600) G0 (runS (FS (lpF 600) G0) 600) z0 z1 false 4 3 .e 0 isT = True := by kernel_rfl
theorem case_4_7_false (z0 z1 : Int) : t_f4 (lpF 600) G0 (runS (FS (lpF 600) G0) 600) z0 z1 false 4 7 .e 0 isT = True := by kernel_rfl
theorem case_5_3_false (z0 z1 : Int) : t_f4 (lpF 600) G0 (runS (FS (lpF 600) G0) 600) z0 z1 false 5 3 .e 0 isT = True := by kernel_rfl
theorem case_5_7_false (z0 z1 : Int) : t_f4 (lpF 600) G0 (runS (FS (lpF 600) G0) 600) z0 z1 false 5 7 .e 0 isT = True := by kernel_rfl
theorem case_6_3_false (z0 z1 : Int) : t_f4 (lpF 600) G0 (runS (FS (lpF 600) G0) 600) z0 z1 false 6 3 .e 0 isT = True := by kernel_rfl
theorem case_6_7_false (z0 z1 : Int) : t_f4 (lpF 600) G0 (runS (FS (lpF 600) G0) 600) z0 z1 false 6 7 .e 0 isT = True := by kernel_rfl
theorem case_7_3_false (z0 z1 : Int) : t_f4 (lpF 600) G0 (runS (FS (lpF 600) G0) 600) z0 z1 false 7 3 .e 0 isT = True := by kernel_rfl
theorem case_7_7_false (z0 z1 : Int) : t_f4 (lpF 600) G0 (runS (FS (lpF 600) G0) 600) z0 z1 false 7 7 .e 0 isT = True := by kernel_rfl
end Go.R3.LB

