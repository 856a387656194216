/- Part of a proof: texts VC1 of the engine and what is proved with it; nothing is assumed. -/
import Derived.Test.YtdplchkljbfjdaaGreatDoorLaw
set_option linter.unusedVariables false
set_option linter.unusedSimpArgs false
set_option maxRecDepth 100000
namespace Go.R5.VC
open Go.Eng Go.R5
theorem case_0_1 (z0 z1 : Int) : t_f8 (lpF 2000) G0 (runS (FS (lpF 2000) G0) 2000) z0 z1 0 1 .e 0 isT = True := by kernel_rfl
theorem case_1_1 (z0 z1 : Int) : t_f8 (lpF 2000) G0 (runS (FS (lpF 2000) G0) 2000) z0 z1 1 1 .e 0 isT = True := by kernel_rfl
theorem case_2_1 (z0 z1 : Int) : t_f8 (lpF 2000) G0 (runS (FS (lpF 2000) G0) 2000) z0 z1 2 1 .e 0 isT = True := by kernel_rfl
theorem case_3_1 (z0 z1 : Int) : t_f8 (lpF 2000) G0 (runS (FS (lpF 2000) G0) 2000) z0 z1 3 1 .e 0 isT = True := by kernel_rfl
theorem case_4_1 (z0 z1 : Int) : t_f8 (lpF 2000) G0 (runS (FS (lpF 2000) G0) 2000) z0 z1 4 1 .e 0 isT = True := by kernel_rfl
theorem case_5_1 (z0 z1 : Int) : t_f8 (lpF 2000) G0 (runS (FS (lpF 2000) G0) 2000) z0 z1 5 1 .e 0 isT = True := by kernel_rfl
theorem case_6_1 (z0 z1 : Int) : t_f8 (lpF 2000) G0 (runS (FS (lpF 2000) G0) 2000) z0 z1 6 1 .e 0 isT = True := by kernel_rfl
theorem case_7_1 (z0 z1 : Int) : t_f8 (lpF 2000) G0 (runS (FS (lpF 2000) G0) 2000) z0 z1 7 1 .e 0 isT = True := by kernel_rfl
theorem case_8_1 (z0 z1 : Int) : t_f8 (lpF 2000) G0 (runS (FS (lpF 2000) G0) 2000) z0 z1 8 1 .e 0 isT = True := by kernel_rfl
theorem case_9_1 (z0 z1 : Int) : t_f8 (lpF 2000) G0 (runS (FS (lpF 2000) G0) 2000) z0 z1 9 1 .e 0 isT = True := by kernel_rfl
theorem case_10_1 (z0 z1 : Int) : t_f8 (lpF 2000) G0 (runS (FS (lpF 2000) G0) 2000) z0 z1 10 1 .e 0 isT = True := by kernel_rfl
theorem case_11_1 (z0 z1 : Int) : t_f8 (lpF 2000) G0 (runS (FS (lpF 2000) G0) 2000) z0 z1 11 1 .e 0 isT = True := by kernel_rfl
theorem case_12_1 (z0 z1 : Int) : t_f8 (lpF 2000) G0 (runS (FS (lpF 2000) G0) 2000) z0 z1 12 1 .e 0 isT = True := by kernel_rfl
theorem case_13_1 (z0 z1 : Int) : t_f8 (lpF 2000) G0 (runS (FS (lpF 2000) G0) 2000) z0 z1 13 1 .e 0 isT = True := by kernel_rfl
theorem case_14_1 (z0 z1 : Int) : t_f8 (lpF 2000) G0 (runS (FS (lpF 2000) G0) 2000) z0 z1 14 1 .e 0 isT = True := by kernel_rfl
theorem case_15_1 (z0 z1 : Int) : t_f8 (lpF 2000) G0 (runS (FS (lpF 2000) G0) 2000) z0 z1 15 1 .e 0 isT = True := by kernel_rfl
end Go.R5.VC

