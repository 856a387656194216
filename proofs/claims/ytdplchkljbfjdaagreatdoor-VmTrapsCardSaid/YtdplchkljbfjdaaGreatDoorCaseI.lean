/- Part of a proof: texts VC8 of the engine and what is proved with it; nothing is assumed. -/
import Derived.Test.YtdplchkljbfjdaaGreatDoorLaw
set_option linter.unusedVariables false
set_option linter.unusedSimpArgs false
set_option maxRecDepth 100000
namespace Go.R5.VC
open Go.Eng Go.R5
theorem case_0_8 (z0 z1 : Int) : t_f8 (lpF 2000) G0 (runS (FS (lpF 2000) G0) 2000) z0 z1 0 8 .e 0 isT = True := by kernel_rfl
theorem case_1_8 (z0 z1 : Int) : t_f8 (lpF 2000) G0 (runS (FS (lpF 2000) G0) 2000) z0 z1 1 8 .e 0 isT = True := by kernel_rfl
theorem case_2_8 (z0 z1 : Int) : t_f8 (lpF 2000) G0 (runS (FS (lpF 2000) G0) 2000) z0 z1 2 8 .e 0 isT = True := by kernel_rfl
theorem case_3_8 (z0 z1 : Int) : t_f8 (lpF 2000) G0 (runS (FS (lpF 2000) G0) 2000) z0 z1 3 8 .e 0 isT = True := by kernel_rfl
theorem case_4_8 (z0 z1 : Int) : t_f8 (lpF 2000) G0 (runS (FS (lpF 2000) G0) 2000) z0 z1 4 8 .e 0 isT = True := by kernel_rfl
theorem case_5_8 (z0 z1 : Int) : t_f8 (lpF 2000) G0 (runS (FS (lpF 2000) G0) 2000) z0 z1 5 8 .e 0 isT = True := by kernel_rfl
theorem case_6_8 (z0 z1 : Int) : t_f8 (lpF 2000) G0 (runS (FS (lpF 2000) G0) 2000) z0 z1 6 8 .e 0 isT = True := by kernel_rfl
theorem case_7_8 (z0 z1 : Int) : t_f8 (lpF 2000) G0 (runS (FS (lpF 2000) G0) 2000) z0 z1 7 8 .e 0 isT = True := by kernel_rfl
theorem case_8_8 (z0 z1 : Int) : t_f8 (lpF 2000) G0 (runS (FS (lpF 2000) G0) 2000) z0 z1 8 8 .e 0 isT = True := by kernel_rfl
theorem case_9_8 (z0 z1 : Int) : t_f8 (lpF 2000) G0 (runS (FS (lpF 2000) G0) 2000) z0 z1 9 8 .e 0 isT = True := by kernel_rfl
theorem case_10_8 (z0 z1 : Int) : t_f8 (lpF 2000) G0 (runS (FS (lpF 2000) G0) 2000) z0 z1 10 8 .e 0 isT = True := by kernel_rfl
theorem case_11_8 (z0 z1 : Int) : t_f8 (lpF 2000) G0 (runS (FS (lpF 2000) G0) 2000) z0 z1 11 8 .e 0 isT = True := by kernel_rfl
theorem case_12_8 (z0 z1 : Int) : t_f8 (lpF 2000) G0 (runS (FS (lpF 2000) G0) 2000) z0 z1 12 8 .e 0 isT = True := by kernel_rfl
theorem case_13_8 (z0 z1 : Int) : t_f8 (lpF 2000) G0 (runS (FS (lpF 2000) G0) 2000) z0 z1 13 8 .e 0 isT = True := by kernel_rfl
theorem case_14_8 (z0 z1 : Int) : t_f8 (lpF 2000) G0 (runS (FS (lpF 2000) G0) 2000) z0 z1 14 8 .e 0 isT = True := by kernel_rfl
theorem case_15_8 (z0 z1 : Int) : t_f8 (lpF 2000) G0 (runS (FS (lpF 2000) G0) 2000) z0 z1 15 8 .e 0 isT = True := by kernel_rfl
end Go.R5.VC

