/- Part of a proof: texts VC9 of the engine and what is proved with it; nothing is assumed. -/
import Derived.Test.YtdplchkljbfjdaaGreatDoorLaw
set_option linter.unusedVariables false
set_option linter.unusedSimpArgs false
set_option maxRecDepth 100000
namespace Go.R5.VC
open Go.Eng Go.R5
theorem case_0_9 (z0 z1 : Int) : t_f8 (lpF 2000) G0 (runS (FS (lpF 2000) G0) 2000) z0 z1 0 9 .e 0 isT = True := by kernel_rfl
theorem case_1_9 (z0 z1 : Int) : t_f8 (lpF 2000) G0 (runS (FS (lpF 2000) G0) 2000) z0 z1 1 9 .e 0 isT = True := by kernel_rfl
theorem case_2_9 (z0 z1 : Int) : t_f8 (lpF 2000) G0 (runS (FS (lpF 2000) G0) 2000) z0 z1 2 9 .e 0 isT = True := by kernel_rfl
theorem case_3_9 (z0 z1 : Int) : t_f8 (lpF 2000) G0 (runS (FS (lpF 2000) G0) 2000) z0 z1 3 9 .e 0 isT = True := by kernel_rfl
theorem case_4_9 (z0 z1 : Int) : t_f8 (lpF 2000) G0 (runS (FS (lpF 2000) G0) 2000) z0 z1 4 9 .e 0 isT = True := by kernel_rfl
theorem case_5_9 (z0 z1 : Int) : t_f8 (lpF 2000) G0 (runS (FS (lpF 2000) G0) 2000) z0 z1 5 9 .e 0 isT = True := by kernel_rfl
theorem case_6_9 (z0 z1 : Int) : t_f8 (lpF 2000) G0 (runS (FS (lpF 2000) G0) 2000) z0 z1 6 9 .e 0 isT = True := by kernel_rfl
theorem case_7_9 (z0 z1 : Int) : t_f8 (lpF 2000) G0 (runS (FS (lpF 2000) G0) 2000) z0 z1 7 9 .e 0 isT = True := by kernel_rfl
theorem case_8_9 (z0 z1 : Int) : t_f8 (lpF 2000) G0 (runS (FS (lpF 2000) G0) 2000) z0 z1 8 9 .e 0 isT = True := by kernel_rfl
theorem case_9_9 (z0 z1 : Int) : t_f8 (lpF 2000) G0 (runS (FS (lpF 2000) G0) 2000) z0 z1 9 9 .e 0 isT = True := by kernel_rfl
theorem case_10_9 (z0 z1 : Int) : t_f8 (lpF 2000) G0 (runS (FS (lpF 2000) G0) 2000) z0 z1 10 9 .e 0 isT = True := by kernel_rfl
theorem case_11_9 (z0 z1 : Int) : t_f8 (lpF 2000) G0 (runS (FS (lpF 2000) G0) 2000) z0 z1 11 9 .e 0 isT = True := by kernel_rfl
theorem case_12_9 (z0 z1 : Int) : t_f8 (lpF 2000) G0 (runS (FS (lpF 2000) G0) 2000) z0 z1 12 9 .e 0 isT = True := by kernel_rfl
theorem case_13_9 (z0 z1 : Int) : t_f8 (lpF 2000) G0 (runS (FS (lpF 2000) G0) 2000) z0 z1 13 9 .e 0 isT = True := by kernel_rfl
theorem case_14_9 (z0 z1 : Int) : t_f8 (lpF 2000) G0 (runS (FS (lpF 2000) G0) 2000) z0 z1 14 9 .e 0 isT = True := by kernel_rfl
theorem case_15_9 (z0 z1 : Int) : t_f8 (lpF 2000) G0 (runS (FS (lpF 2000) G0) 2000) z0 z1 15 9 .e 0 isT = True := by kernel_rfl
end Go.R5.VC

