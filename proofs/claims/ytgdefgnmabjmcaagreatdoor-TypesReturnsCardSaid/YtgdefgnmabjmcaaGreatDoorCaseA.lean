/- Part of a proof: texts LC0 of the engine and what is proved with it; nothing is assumed. -/
import Derived.Test.YtgdefgnmabjmcaaGreatDoorLaw
set_option linter.unusedVariables false
set_option linter.unusedSimpArgs false
set_option maxRecDepth 100000
namespace Go.R3.LC
open Go.Eng Go.R3
theorem case_0_0 (z0 z1 : Int) : t_f6 (lpF 600) G0 (runS (FS (lpF 600) G0) 600) z0 z1 0 0 .e 0 isT = True := by kernel_rfl
theorem case_0_4 (z0 z1 : Int) : t_f6 (lpF 600) G0 (runS (FS (lpF 600) G0) 600) z0 z1 0 4 .e 0 isT = True := by kernel_rfl
theorem case_1_1 (z0 z1 : Int) : t_f6 (lpF 600) G0 (runS (FS (lpF 600) G0) 600) z0 z1 1 1 .e 0 isT = True := by kernel_rfl
theorem case_1_5 (z0 z1 : Int) : t_f6 (lpF 600) G0 (runS (FS (lpF 600) G0) 600) z0 z1 1 5 .e 0 isT = True := by kernel_rfl
theorem case_2_2 (z0 z1 : Int) : t_f6 (lpF 600) G0 (runS (FS (lpF 600) G0) 600) z0 z1 2 2 .e 0 isT = True := by kernel_rfl
theorem case_2_6 (z0 z1 : Int) : t_f6 (lpF 600) G0 (runS (FS (lpF 600) G0) 600) z0 z1 2 6 .e 0 isT = True := by kernel_rfl
theorem case_3_3 (z0 z1 : Int) : t_f6 (lpF 600) G0 (runS (FS (lpF 600) G0) 600) z0 z1 3 3 .e 0 isT = True := by kernel_rfl
theorem case_4_0 (z0 z1 : Int) : t_f6 (lpF 600) G0 (runS (FS (lpF 600) G0) 600) z0 z1 4 0 .e 0 isT = True := by kernel_rfl
theorem case_4_4 (z0 z1 : Int) : t_f6 (lpF 600) G0 (runS (FS (lpF 600) G0) 600) z0 z1 4 4 .e 0 isT = True := by kernel_rfl
theorem case_5_1 (z0 z1 : Int) : t_f6 (lpF 600) G0 (runS (FS (lpF 600) G0) 600) z0 z1 5 1 .e 0 isT = True := by kernel_rfl
theorem case_5_5 (z0 z1 : Int) : t_f6 (lpF 600) G0 (runS (FS (lpF 600) G0) 600) z0 z1 5 5 .e 0 isT = True := by kernel_rfl
end Go.R3.LC

