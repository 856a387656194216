/- Part of a proof: texts LB5 of the engine and what is proved with it; nothing is assumed. -/
import Derived.Test.YtgdefgnmabjmcaaGreatDoorLaw
set_option linter.unusedVariables false
set_option linter.unusedSimpArgs false
set_option maxRecDepth 100000
namespace Go.R3.LB
open Go.Eng Go.R3
theorem case_0_2_false (z0 z1 : Int) : t_f4 (lpF 600) G0 (runS (FS (lpF 600) G0) 600) z0 z1 false 0 2 .e 0 isT = True := by kernel_rfl
theorem case_0_6_false (z0 z1 : Int) : t_f4 (lpF 600) G0 (runS (FS (lpF 600) G0) 600) z0 z1 false 0 6 .e 0 isT = True := by kernel_rfl
theorem case_1_2_false (z0 z1 : Int) : t_f4 (lpF 600) G0 (runS (FS (lpF 600) G0) 600) z0 z1 false 1 2 .e 0 isT = True := by kernel_rfl
theorem case_1_6_false (z0 z1 : Int) : t_f4 (lpF 600) G0 (runS (FS (lpF 600) G0) 600) z0 z1 false 1 6 .e 0 isT = True := by kernel_rfl
theorem case_2_2_false (z0 z1 : Int) : t_f4 (lpF 600) G0 (runS (FS (lpF 600) G0) 600) z0 z1 false 2 2 .e 0 isT = True := by kernel_rfl
theorem case_2_6_false (z0 z1 : Int) : t_f4 (lpF 600) G0 (runS (FS (lpF 600) G0) 600) z0 z1 false 2 6 .e 0 isT = True := by kernel_rfl
theorem case_3_2_false (z0 z1 : Int) : t_f4 (lpF 600) G0 (runS (FS (lpF 600) G0) 600) z0 z1 false 3 2 .e 0 isT = True := by kernel_rfl
theorem case_3_6_false (z0 z1 : Int) : t_f4 (lpF 600) G0 (runS (FS (lpF 600) G0) 600) z0 z1 false 3 6 .e 0 isT = True := by kernel_rfl
theorem case_4_2_false (z0 z1 : Int) : t_f4 (lpF 600) G0 (runS (FS (lpF 600) G0) 600) z0 z1 false 4 2 .e 0 isT = True := by kernel_rfl
theorem case_4_6_false (z0 z1 : Int) : t_f4 (lpF 600) G0 (runS (FS (lpF 600) G0) 600) z0 z1 false 4 6 .e 0 isT = True := by kernel_rfl
theorem case_5_2_false (z0 z1 : Int) : t_f4 (lpF 600) G0 (runS (FS (lpF 600) G0) 600) z0 z1 false 5 2 .e 0 isT = True := by kernel_rfl
theorem case_5_6_false (z0 z1 : Int) : t_f4 (lpF 600) G0 (runS (FS (lpF 600) G0) 600) z0 z1 false 5 6 .e 0 isT = True := by kernel_rfl
theorem case_6_2_false (z0 z1 : Int) : t_f4 (lpF 600) G0 (runS (FS (lpF 600) G0) 600) z0 z1 false 6 2 .e 0 isT = True := by kernel_rfl
theorem case_6_6_false (z0 z1 : Int) : t_f4 (lpF 600) G0 (runS (FS (lpF 600) G0) 600) z0 z1 false 6 6 .e 0 isT = True := by kernel_rfl
theorem case_7_2_false (z0 z1 : Int) : t_f4 (lpF 600) G0 (runS (FS (lpF 600) G0) 600) z0 z1 false 7 2 .e 0 isT = True := by kernel_rfl
theorem case_7_6_false (z0 z1 : Int) : t_f4 (lpF 600) G0 (runS (FS (lpF 600) G0) 600) z0 z1 false 7 6 .e 0 isT = True := by kernel_rfl
end Go.R3.LB

