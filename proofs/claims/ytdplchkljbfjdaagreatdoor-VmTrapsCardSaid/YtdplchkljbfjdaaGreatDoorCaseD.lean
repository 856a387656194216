/- Part of a proof: texts VC3 of the engine and what is proved with it; nothing is assumed. -/
import Derived.Test.YtdplchkljbfjdaaGreatDoorLaw
set_option linter.unusedVariables false
set_option linter.unusedSimpArgs false
set_option maxRecDepth 100000
namespace Go.R5.VC
open Go.Eng Go.R5
theorem case_0_3 (z0 z1 : Int) : t_f8 (lpF 2000) G0 (runS (FS (lpF 2000) G0) 2000) z0 z1 0 3 .e 0 isT = True := by kernel_rfl
theorem case_1_3 (z0 z1 : Int) : t_f8 (lpF 2000) G0 (runS (FS (lpF 2000) G0) 2000) z0 z1 1 3 .e 0 isT = True := by kernel_rfl
theorem case_2_3 (z0 z1 : Int) : t_f8 (lpF 2000) G0 (runS (FS (lpF 2000) G0) 2000) z0 z1 2 3 .e 0 isT = True := by kernel_rfl
theorem case_3_3 (z0 z1 : Int) : t_f8 (lpF 2000) G0 (runS (FS (lpF 2000) G0) 2000) z0 z1 3 3 .e 0 isT = True := by kernel_rfl
theorem case_4_3 (z0 z1 : Int) : t_f8 (lpF 2000) G0 (runS (FS (lpF 2000) G0) 2000) z0 z1 4 3 .e 0 isT = True := by kernel_rfl
theorem case_5_3 (z0 z1 : Int) : t_f8 (lpF 2000) G0 (runS (FS (lpF 2000) G0) 2000) z0 z1 5 3 .e 0 isT = True := by kernel_rfl
theorem case_6_3 (z0 z1 : Int) : t_f8 (lpF 2000) G0 (runS (FS (lpF 2000) G0) 2000) z0 z1 6 3 .e 0 isT = True := by kernel_rfl
theorem case_7_3 (z0 z1 : Int) : t_f8 (lpF 2000) G0 (runS (FS (lpF 2000) G0) 2000) z0 z1 7 3 .e 0 isT = True := by kernel_rfl
theorem case_8_3 (z0 z1 : Int) : t_f8 (lpF 2000) G0 (runS (FS (lpF 2000) G0) 2000) z0 z1 8 3 .e 0 isT = True := by kernel_rfl
theorem case_9_3 (z0 z1 : Int) : t_f8 (lpF 2000) G0 (runS (FS (lpF 2000) G0) 2000) z0 z1 9 3 .e 0 isT = True := by kernel_rfl
theorem case_10_3 (z0 z1 : Int) : t_f8 (lpF 2000) G0 (runS (FS (lpF 2000) G0) 2000) z0 z1 10 3 .e 0 isT = True := by kernel_rfl
theorem case_11_3 (z0 z1 : Int) : t_f8 (lpF 2000) G0 (runS (FS (lpF 2000) G0) 2000) z0 z1 11 3 .e 0 isT = True := by kernel_rfl
theorem case_12_3 (z0 z1 : Int) : t_f8 (lpF 2000) G0 (runS (FS (lpF 2000) G0) 2000) z0 z1 12 3 .e 0 isT = True := by kernel_rfl
theorem case_13_3 (z0 z1 : Int) : t_f8 (lpF 2000) G0 (runS (FS (lpF 2000) G0) 2000) z0 z1 13 3 .e 0 isT = True := by kernel_rfl
theorem case_14_3 (z0 z1 : Int) : t_f8 (lpF 2000) G0 (runS (FS (lpF 2000) G0) 2000) z0 z1 14 3 .e 0 isT = True := by kernel_rfl
theorem case_15_3 (z0 z1 : Int) : t_f8 (lpF 2000) G0 (runS (FS (lpF 2000) G0) 2000) z0 z1 15 3 .e 0 isT = True := by kernel_rfl
end Go.R5.VC

