/- Part of a proof: texts VC10 of the engine and what is proved with it; nothing is assumed. -/
import Derived.Test.YtdplchkljbfjdaaGreatDoorLaw
set_option linter.unusedVariables false
set_option linter.unusedSimpArgs false
set_option maxRecDepth 100000
namespace Go.R5.VC
open Go.Eng Go.R5
theorem case_0_10 (z0 z1 : Int) : t_f8 (lpF 2000) G0 (runS (FS (lpF 2000) G0) 2000) z0 z1 0 10 .e 0 isT = True := by kernel_rfl
theorem case_1_10 (z0 z1 : Int) : t_f8 (lpF 2000) G0 (runS (FS (lpF 2000) G0) 2000) z0 z1 1 10 .e 0 isT = True := by kernel_rfl
theorem case_2_10 (z0 z1 : Int) : t_f8 (lpF 2000) G0 (runS (FS (lpF 2000) G0) 2000) z0 z1 2 10 .e 0 isT = True := by kernel_rfl
theorem case_3_10 (z0 z1 : Int) : t_f8 (lpF 2000) G0 (runS (FS (lpF 2000) G0) 2000) z0 z1 3 10 .e 0 isT = True := by kernel_rfl
theorem case_4_10 (z0 z1 : Int) : t_f8 (lpF 2000) G0 (runS (FS (lpF 2000) G0) 2000) z0 z1 4 10 .e 0 isT = True := by kernel_rfl
theorem case_5_10 (z0 z1 : Int) : t_f8 (lpF 2000) G0 (runS (FS (lpF 2000) G0) 2000) z0 z1 5 10 .e 0 isT = True := by kernel_rfl
theorem case_6_10 (z0 z1 : Int) : t_f8 (lpF 2000) G0 (runS (FS (lpF 2000) G0) 2000) z0 z1 6 10 .e 0 isT = True := by kernel_rfl
theorem case_7_10 (z0 z1 : Int) : t_f8 (lpF 2000) G0 (runS (FS (lpF 2000) G0) 2000) z0 z1 7 10 .e 0 isT = True := by kernel_rfl
theorem case_8_10 (z0 z1 : Int) : t_f8 (lpF 2000) G0 (runS (FS (lpF 2000) G0) 2000) z0 z1 8 10 .e 0 isT = True := by kernel_rfl
theorem case_9_10 (z0 z1 : Int) : t_f8 (lpF 2000) G0 (runS (FS (lpF 2000) G0) 2000) z0 z1 9 10 .e 0 isT = True := by kernel_rfl
theorem case_10_10 (z0 z1 : Int) : t_f8 (lpF 2000) G0 (runS (FS (lpF 2000) G0) 2000) z0 z1 10 10 .e 0 isT = True := by kernel_rfl
theorem case_11_10 (z0 z1 : Int) : t_f8 (lpF 2000) G0 (runS (FS (lpF 2000) G0) 2000) z0 z1 11 10 .e 0 isT = True := by kernel_rfl
theorem case_12_10 (z0 z1 : Int) : t_f8 (lpF 2000) G0 (runS (FS (lpF 2000) G0) 2000) z0 z1 12 10 .e 0 isT = True := by kernel_rfl
theorem case_13_10 (z0 z1 : Int) : t_f8 (lpF 2000) G0 (runS (FS (lpF 2000) G0) 2000) z0 z1 13 10 .e 0 isT = True := by kernel_rfl
theorem case_14_10 (z0 z1 : Int) : t_f8 (lpF 2000) G0 (runS (FS (lpF 2000) G0) 2000) z0 z1 14 10 .e 0 isT = True := by kernel_rfl
theorem case_15_10 (z0 z1 : Int) : t_f8 (lpF 2000) G0 (runS (FS (lpF 2000) G0) 2000) z0 z1 15 10 .e 0 isT = True := by kernel_rfl
end Go.R5.VC

