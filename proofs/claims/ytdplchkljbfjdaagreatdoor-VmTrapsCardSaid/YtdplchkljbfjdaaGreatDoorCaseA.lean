/- Part of a proof: texts VC0 of the engine and what is proved with it; nothing is assumed. -/
import Derived.Test.YtdplchkljbfjdaaGreatDoorLaw
set_option linter.unusedVariables false
set_option linter.unusedSimpArgs false
set_option maxRecDepth 100000
namespace Go.R5.VC
open Go.Eng Go.R5
theorem case_0_0 (z0 z1 : Int) : t_f8 (lpF 2000) G0 (runS (FS (lpF 2000) G0) 2000) z0 z1 0 0 .e 0 isT = True := by kernel_rfl
theorem case_1_0 (z0 z1 : Int) : t_f8 (lpF 2000) G0 (runS (FS (lpF 2000) G0) 2000) z0 z1 1 0 .e 0 isT = True := by kernel_rfl
theorem case_2_0 (z0 z1 : Int) : t_f8 (lpF 2000) G0 (runS (FS (lpF 2000) G0) 2000) z0 z1 2 0 .e 0 isT = True := by kernel_rfl
theorem case_3_0 (z0 z1 : Int) : t_f8 (lpF 2000) G0 (runS (FS (lpF 2000) G0) 2000) z0 z1 3 0 .e 0 isT = True := by kernel_rfl
theorem case_4_0 (z0 z1 : Int) : t_f8 (lpF 2000) G0 (runS (FS (lpF 2000) G0) 2000) z0 z1 4 0 .e 0 isT = True := by kernel_rfl
theorem case_5_0 (z0 z1 : Int) : t_f8 (lpF 2000) G0 (runS (FS (lpF 2000) G0) 2000) z0 z1 5 0 .e 0 isT = True := by kernel_rfl
theorem case_6_0 (z0 z1 : Int) : t_f8 (lpF 2000) G0 (runS (FS (lpF 2000) G0) 2000) z0 z1 6 0 .e 0 isT = True := by kernel_rfl
theorem case_7_0 (z0 z1 : Int) : t_f8 (lpF 2000) G0 (runS (FS (lpF 2000) G0) 2000) z0 z1 7 0 .e 0 isT = True := by kernel_rfl
theorem case_8_0 (z0 z1 : Int) : t_f8 (lpF 2000) G0 (runS (FS (lpF 2000) G0) 2000) z0 z1 8 0 .e 0 isT = True := by kernel_rfl
theorem case_9_0 (z0 z1 : Int) : t_f8 (lpF 2000) G0 (runS (FS (lpF 2000) G0) 2000) z0 z1 9 0 .e 0 isT = True := by kernel_rfl
theorem case_10_0 (z0 z1 : Int) : t_f8 (lpF 2000) G0 (runS (FS (lpF 2000) G0) 2000) z0 z1 10 0 .e 0 isT = True := by kernel_rfl
theorem case_11_0 (z0 z1 : Int) : t_f8 (lpF 2000) G0 (runS (FS (lpF 2000) G0) 2000) z0 z1 11 0 .e 0 isT = True := by kernel_rfl
theorem case_12_0 (z0 z1 : Int) : t_f8 (lpF 2000) G0 (runS (FS (lpF 2000) G0) 2000) z0 z1 12 0 .e 0 isT = True := by kernel_rfl
theorem case_13_0 (z0 z1 : Int) : t_f8 (lpF 2000) G0 (runS (FS (lpF 2000) G0) 2000) z0 z1 13 0 .e 0 isT = True := by kernel_rfl
theorem case_14_0 (z0 z1 : Int) : t_f8 (lpF 2000) G0 (runS (FS (lpF 2000) G0) 2000) z0 z1 14 0 .e 0 isT = True := by kernel_rfl
theorem case_15_0 (z0 z1 : Int) : t_f8 (lpF 2000) G0 (runS (FS (lpF 2000) G0) 2000) z0 z1 15 0 .e 0 isT = True := by kernel_rfl
end Go.R5.VC

