/- Part of a proof: texts LB6 of the engine and what is proved with it; nothing is assumed. -/
import Derived.Test.YtgdefgnmabjmcaaGreatDoorLaw
set_option linter.unusedVariables false
set_option linter.unusedSimpArgs false
set_option maxRecDepth 100000
namespace Go.R3.LB
open Go.Eng Go.R3
theorem case_0_3_true (z0 z1 : Int) : t_f4 (lpF 600) G0 (runS (FS (lpF 600) G0) 600) z0 z1 true 0 3 .e 0 isT = True := by kernel_rfl
theorem case_0_7_true (z0 z1 : Int) : t_f4 (lpF 600) G0 (runS (FS (lpF 600) G0) 600) z0 z1 true 0 7 .e 0 isT = True := by kernel_rfl
theorem case_1_3_true (z0 z1 : Int) : t_f4 (lpF 600) G0 (runS (FS (lpF 600) G0) 600) z0 z1 true 1 3 .e 0 isT = True := by kernel_rfl
theorem case_1_7_true (z0 z1 : Int) : t_f4 (lpF 600) G0 (runS (FS (lpF 600) G0) 600) z0 z1 true 1 7 .e 0 isT = True := by kernel_rfl
theorem case_2_3_true (z0 z1 : Int) : t_f4 (lpF 600) G0 (runS (FS (lpF 600) G0) 600) z0 z1 true 2 3 .e 0 isT = True := by kernel_rfl
theorem case_2_7_true (z0 z1 : Int) : t_f4 (lpF 600) G0 (runS (FS (lpF 600) G0) 600) z0 z1 true 2 7 .e 0 isT = True := by kernel_rfl
theorem case_3_3_true (z0 z1 : Int) : t_f4 (lpF 600) G0 (runS (FS (lpF 600) G0) 600) z0 z1 true 3 3 .e 0 isT = True := by kernel_rfl
theorem case_3_7_true (z0 z1 : Int) : t_f4 (lpF 600) G0 (runS (FS (lpF 600) G0) 600) z0 z1 true 3 7 .e 0 isT = True := by kernel_rfl
theorem case_4_3_true (z0 z1 : Int) : t_f4 (lpF 600) G0 (runS (FS (lpF 600) G0) 600) z0 z1 true 4 3 .e 0 isT = True := by kernel_rfl
theorem case_4_7_true (z0 z1 : Int) : t_f4 (lpF 600) G0 (runS (FS (lpF 600) G0) 600) z0 z1 true 4 7 .e 0 isT = True := by kernel_rfl
theorem case_5_3_true (z0 z1 : Int) : t_f4 (lpF 600) G0 (runS (FS (lpF 600) G0) 600) z0 z1 true 5 3 .e 0 isT = True := by kernel_rfl
theorem case_5_7_true (z0 z1 : Int) : t_f4 (lpF 600) G0 (runS (FS (lpF 600) G0) 600) z0 z1 true 5 7 .e 0 isT = True := by kernel_rfl
theorem case_6_3_true (z0 z1 : Int) : t_f4 (lpF 600) G0 (runS (FS (lpF 600) G0) 600) z0 z1 true 6 3 .e 0 isT = True := by kernel_rfl
theorem case_6_7_true (z0 z1 : Int) : t_f4 (lpF 600) G0 (runS (FS (lpF 600) G0) 600) z0 z1 true 6 7 .e 0 isT = True := by kernel_rfl
theorem case_7_3_true (z0 z1 : Int) : t_f4 (lpF 600) G0 (runS (FS (lpF 600) G0) 600) z0 z1 true 7 3 .e 0 isT = True := by kernel_rfl
theorem case_7_7_true (z0 z1 : Int) : t_f4 (lpF 600) G0 (runS (FS (lpF 600) G0) 600) z0 z1 true 7 7 .e 0 isT = True := by kernel_rfl
end Go.R3.LB

