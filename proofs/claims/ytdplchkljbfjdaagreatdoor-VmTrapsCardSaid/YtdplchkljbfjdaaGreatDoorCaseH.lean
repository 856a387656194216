/- Part of a proof: texts VC7 of the engine and what is proved with it; nothing is assumed. -/
import Derived.Test.YtdplchkljbfjdaaGreatDoorLaw
set_option linter.unusedVariables false
set_option linter.unusedSimpArgs false
set_option maxRecDepth 100000
namespace Go.R5.VC
open Go.Eng Go.R5
theorem case_0_7 (z0 z1 : Int) : t_f8 (lpF 2000) G0 (runS (FS (lpF 2000) G0) 2000) z0 z1 0 7 .e 0 isT = True := by kernel_rfl
theorem case_1_7 (z0 z1 : Int) : t_f8 (lpF 2000) G0 (runS (FS (lpF 2000) G0) 2000) z0 z1 1 7 .e 0 isT = True := by kernel_rfl
theorem case_2_7 (z0 z1 : Int) : t_f8 (lpF 2000) G0 (runS (FS (lpF 2000) G0) 2000) z0 z1 2 7 .e 0 isT = True := by kernel_rfl
theorem case_3_7 (z0 z1 : Int) : t_f8 (lpF 2000) G0 (runS (FS (lpF 2000) G0) 2000) z0 z1 3 7 .e 0 isT = True := by kernel_rfl
theorem case_4_7 (z0 z1 : Int) : t_f8 (lpF 2000) G0 (runS (FS (lpF 2000) G0) 2000) z0 z1 4 7 .e 0 isT = True := by kernel_rfl
theorem case_5_7 (z0 z1 : Int) : t_f8 (lpF 2000) G0 (runS (FS (lpF 2000) G0) 2000) z0 z1 5 7 .e 0 isT = True := by kernel_rfl
theorem case_6_7 (z0 z1 : Int) : t_f8 (lpF 2000) G0 (runS (FS (lpF 2000) G0) 2000) z0 z1 6 7 .e 0 isT = True := by kernel_rfl
theorem case_7_7 (z0 z1 : Int) : t_f8 (lpF 2000) G0 (runS (FS (lpF 2000) G0) 2000) z0 z1 7 7 .e 0 isT = True := by kernel_rfl
theorem case_8_7 (z0 z1 : Int) : t_f8 (lpF 2000) G0 (runS (FS (lpF 2000) G0) 2000) z0 z1 8 7 .e 0 isT = True := by kernel_rfl
theorem case_9_7 (z0 z1 : Int) : t_f8 (lpF 2000) G0 (runS (FS (lpF 2000) G0) 2000) z0 z1 9 7 .e 0 isT = True := by kernel_rfl
theorem case_10_7 (z0 z1 : Int) : t_f8 (lpF 2000) G0 (runS (FS (lpF 2000) G0) 2000) z0 z1 10 7 .e 0 isT = True := by kernel_rfl
theorem case_11_7 (z0 z1 : Int) : t_f8 (lpF 2000) G0 (runS (FS (lpF 2000) G0) 2000) z0 z1 11 7 .e 0 isT = True := by kernel_rfl
theorem case_12_7 (z0 z1 : Int) : t_f8 (lpF 2000) G0 (runS (FS (lpF 2000) G0) 2000) z0 z1 12 7 .e 0 isT = True := by kernel_rfl
theorem case_13_7 (z0 z1 : Int) : t_f8 (lpF 2000) G0 (runS (FS (lpF 2000) G0) 2000) z0 z1 13 7 .e 0 isT = True := by kernel_rfl
theorem case_14_7 (z0 z1 : Int) : t_f8 (lpF 2000) G0 (runS (FS (lpF 2000) G0) 2000) z0 z1 14 7 .e 0 isT = True := by kernel_rfl
theorem case_15_7 (z0 z1 : Int) : t_f8 (lpF 2000) G0 (runS (FS (lpF 2000) G0) 2000) z0 z1 15 7 .e 0 isT = True := by kernel_rfl
end Go.R5.VC

