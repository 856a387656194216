/- Part of a proof: texts VC6 of the engine and what is proved with it; nothing is assumed. -/
import Derived.Test.YtdplchkljbfjdaaGreatDoorLaw
set_option linter.unusedVariables false
set_option linter.unusedSimpArgs false
set_option maxRecDepth 100000
namespace Go.R5.VC
open Go.Eng Go.R5
theorem case_0_6 (z0 z1 : Int) : t_f8 (lpF 2000) G0 (runS (FS (lpF 2000) G0) 2000) z0 z1 0 6 .e 0 isT = True := by kernel_rfl
theorem case_1_6 (z0 z1 : Int) : t_f8 (lpF 2000) G0 (runS (FS (lpF 2000) G0) 2000) z0 z1 1 6 .e 0 isT = True := by kernel_rfl
theorem case_2_6 (z0 z1 : Int) : t_f8 (lpF 2000) G0 (runS (FS (lpF 2000) G0) 2000) z0 z1 2 6 .e 0 isT = True := by kernel_rfl
theorem case_3_6 (z0 z1 : Int) : t_f8 (lpF 2000) G0 (runS (FS (lpF 2000) G0) 2000) z0 z1 3 6 .e 0 isT = True := by kernel_rfl
theorem case_4_6 (z0 z1 : Int) : t_f8 (lpF 2000) G0 (runS (FS (lpF 2000) G0) 2000) z0 z1 4 6 .e 0 isT = True := by kernel_rfl
theorem case_5_6 (z0 z1 : Int) : t_f8 (lpF 2000) G0 (runS (FS (lpF 2000) G0) 2000) z0 z1 5 6 .e 0 isT = True := by kernel_rfl
theorem case_6_6 (z0 z1 : Int) : t_f8 (lpF 2000) G0 (runS (FS (lpF 2000) G0) 2000) z0 z1 6 6 .e 0 isT = True := by kernel_rfl
theorem case_7_6 (z0 z1 : Int) : t_f8 (lpF 2000) G0 (runS (FS (lpF 2000) G0) 2000) z0 z1 7 6 .e 0 isT = True := by kernel_rfl
theorem case_8_6 (z0 z1 : Int) : t_f8 (lpF 2000) G0 (runS (FS (lpF 2000) G0) 2000) z0 z1 8 6 .e 0 isT = True := by kernel_rfl
theorem case_9_6 (z0 z1 : Int) : t_f8 (lpF 2000) G0 (runS (FS (lpF 2000) G0) 2000) z0 z1 9 6 .e 0 isT = True := by kernel_rfl
theorem case_10_6 (z0 z1 : Int) : t_f8 (lpF 2000) G0 (runS (FS (lpF 2000) G0) 2000) z0 z1 10 6 .e 0 isT = True := by kernel_rfl
theorem case_11_6 (z0 z1 : Int) : t_f8 (lpF 2000) G0 (runS (FS (lpF 2000) G0) 2000) z0 z1 11 6 .e 0 isT = True := by kernel_rfl
theorem case_12_6 (z0 z1 : Int) : t_f8 (lpF 2000) G0 (runS (FS (lpF 2000) G0) 2000) z0 z1 12 6 .e 0 isT = True := by kernel_rfl
theorem case_13_6 (z0 z1 : Int) : t_f8 (lpF 2000) G0 (runS (FS (lpF 2000) G0) 2000) z0 z1 13 6 .e 0 isT = True := by kernel_rfl
theorem case_14_6 (z0 z1 : Int) : t_f8 (lpF 2000) G0 (runS (FS (lpF 2000) G0) 2000) z0 z1 14 6 .e 0 isT = True := by kernel_rfl
theorem case_15_6 (z0 z1 : Int) : t_f8 (lpF 2000) G0 (runS (FS (lpF 2000) G0) 2000) z0 z1 15 6 .e 0 isT = True := by kernel_rfl
end Go.R5.VC

