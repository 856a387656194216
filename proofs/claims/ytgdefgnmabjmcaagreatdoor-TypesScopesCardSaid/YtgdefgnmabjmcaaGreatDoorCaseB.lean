/- Part of a proof: texts LB1 of the engine and what is proved with it; nothing is assumed. -/
import Derived.Test.YtgdefgnmabjmcaaGreatDoorLaw
set_option linter.unusedVariables false
set_option linter.unusedSimpArgs false
set_option maxRecDepth 100000
namespace Go.R3.LB
open Go.Eng Go.R3
theorem case_0_0_false (z0 z1 : Int) : t_f4 (lpF 600) G0 (runS (FS (lpF 600) G0) 600) z0 z1 false 0 0 .e 0 isT = True := by kernel_rfl
theorem case_0_4_false (z0 z1 : Int) : t_f4 (lpF 600) G0 (runS (FS (lpF 600) G0) 600) z0 z1 false 0 4 .e 0 isT = True := by kernel_rfl
theorem case_1_0_false (z0 z1 : Int) : t_f4 (lpF 600) G0 (runS (FS (lpF 600) G0) 600) z0 z1 false 1 0 .e 0 isT = True := by kernel_rfl
theorem case_1_4_false (z0 z1 : Int) : t_f4 (lpF 600) G0 (runS (FS (lpF 600) G0) 600) z0 z1 false 1 4 .e 0 isT = True := by kernel_rfl
theorem case_2_0_false (z0 z1 : Int) : t_f4 (lpF 600) G0 (runS (FS (lpF 600) G0) 600) z0 z1 false 2 0 .e 0 isT = True := by kernel_rfl
theorem case_2_4_false (z0 z1 : Int) : t_f4 (lpF 600) G0 (runS (FS (lpF 600) G0) 600) z0 z1 false 2 4 .e 0 isT = True := by kernel_rfl
theorem case_3_0_false (z0 z1 : Int) : t_f4 (lpF 600) G0 (runS (FS (lpF 600) G0) 600) z0 z1 false 3 0 .e 0 isT = True := by kernel_rfl
theorem case_3_4_false (z0 z1 : Int) : t_f4 (lpF 600) G0 (runS (FS (lpF 600) G0) 600) z0 z1 false 3 4 .e 0 isT = True := by kernel_rfl
theorem case_4_0_false (z0 z1 : Int) : t_f4 (lpF 600) G0 (runS (FS (lpF 600) G0) 600) z0 z1 false 4 0 .e 0 isT = True := by kernel_rfl
theorem case_4_4_false (z0 z1 : Int) : t_f4 (lpF 600) G0 (runS (FS (lpF 600) G0) 600) z0 z1 false 4 4 .e 0 isT = True := by kernel_rfl
theorem case_5_0_false (z0 z1 : Int) : t_f4 (lpF 600) G0 (runS (FS (lpF 600) G0) 600) z0 z1 false 5 0 .e 0 isT = True := by kernel_rfl
theorem case_5_4_false (z0 z1 : Int) : t_f4 (lpF 600) G0 (runS (FS (lpF 600) G0) 600) z0 z1 false 5 4 .e 0 isT = True := by kernel_rfl
theorem case_6_0_false (z0 z1 : Int) : t_f4 (lpF 600) G0 (runS (FS (lpF 600) G0) 600) z0 z1 false 6 0 .e 0 isT = True := by kernel_rfl
theorem case_6_4_false (z0 z1 : Int) : t_f4 (lpF 600) G0 (runS (FS (lpF 600) G0) 600) z0 z1 false 6 4 .e 0 isT = True := by kernel_rfl
theorem case_7_0_false (z0 z1 : Int) : t_f4 (lpF 600) G0 (runS (FS (lpF 600) G0) 600) z0 z1 false 7 0 .e 0 isT = True := by kernel_rfl
theorem case_7_4_false (z0 z1 : Int) : t_f4 (lpF 600) G0 (runS (FS (lpF 600) G0) 600) z0 z1 false 7 4 .e 0 isT = True := by kernel_rfl
end Go.R3.LB

