/- Part of a proof: texts LB2 of the engine and what is proved with it; nothing is assumed. -/
import Derived.Test.YtgdefgnmabjmcaaGreatDoorLaw
set_option linter.unusedVariables false
set_option linter.unusedSimpArgs false
set_option maxRecDepth 100000
namespace Go.R3.LB
open Go.Eng Go.R3
theorem case_0_1_true (z0 z1 : Int) : t_f4 (lpF 600) G0 (runS (FS (lpF 600) G0) 600) z0 z1 true 0 1 .e 0 isT = True := by kernel_rfl
theorem case_0_5_true (z0 z1 : Int) : t_f4 (lpF 600) G0 (runS (FS (lpF 600) G0) 600) z0 z1 true 0 5 .e 0 isT = True := by kernel_rfl
theorem case_1_1_true (z0 z1 : Int) : t_f4 (lpF 600) G0 (runS (FS (lpF 600) G0) 600) z0 z1 true 1 1 .e 0 isT = True := by kernel_rfl
theorem case_1_5_true (z0 z1 : Int) : t_f4 (lpF 600) G0 (runS (FS (lpF 600) G0) 600) z0 z1 true 1 5 .e 0 isT = True := by kernel_rfl
theorem case_2_1_true (z0 z1 : Int) : t_f4 (lpF 600) G0 (runS (FS (lpF 600) G0) 600) z0 z1 true 2 1 .e 0 isT = True := by kernel_rfl
theorem case_2_5_true (z0 z1 : Int) : t_f4 (lpF 600) G0 (runS (FS (lpF 600) G0) 600) z0 z1 true 2 5 .e 0 isT = True := by kernel_rfl
theorem case_3_1_true (z0 z1 : Int) : t_f4 (lpF 600) G0 (runS (FS (lpF 600) G0) 600) z0 z1 true 3 1 .e 0 isT = True := by kernel_rfl
theorem case_3_5_true (z0 z1 : Int) : t_f4 (lpF 600) G0 (runS (FS (lpF 600) G0) 600) z0 z1 true 3 5 .e 0 isT = True := by kernel_rfl
theorem case_4_1_true (z0 z1 : Int) : t_f4 (lpF 600) G0 (runS (FS (lpF 600) G0) 600) z0 z1 true 4 1 .e 0 isT = True := by kernel_rfl
theorem case_4_5_true (z0 z1 : Int) : t_f4 (lpF 600) G0 (runS (FS (lpF 600) G0) 600) z0 z1 true 4 5 .e 0 isT = True := by kernel_rfl
theorem case_5_1_true (z0 z1 : Int) : t_f4 (lpF 600) G0 (runS (FS (lpF 600) G0) 600) z0 z1 true 5 1 .e 0 isT = True := by kernel_rfl
theorem case_5_5_true (z0 z1 : Int) : t_f4 (lpF 600) G0 (runS (FS (lpF 600) G0) 600) z0 z1 true 5 5 .e 0 isT = True := by kernel_rfl
theorem case_6_1_true (z0 z1 : Int) : t_f4 (lpF 600) G0 (runS (FS (lpF 600) G0) 600) z0 z1 true 6 1 .e 0 isT = True := by kernel_rfl
theorem case_6_5_true (z0 z1 : Int) : t_f4 (lpF 600) G0 (runS (FS (lpF 600) G0) 600) z0 z1 true 6 5 .e 0 isT = True := by kernel_rfl
theorem case_7_1_true (z0 z1 : Int) : t_f4 (lpF 600) G0 (runS (FS (lpF 600) G0) 600) z0 z1 true 7 1 .e 0 isT = True := by kernel_rfl
theorem case_7_5_true (z0 z1 : Int) : t_f4 (lpF 600) G0 (runS (FS (lpF 600) G0) 600) z0 z1 true 7 5 .e 0 isT = True := by kernel_rfl
end Go.R3.LB

