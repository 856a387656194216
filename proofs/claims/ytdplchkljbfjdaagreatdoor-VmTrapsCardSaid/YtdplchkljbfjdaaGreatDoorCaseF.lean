/- Part of a proof: texts VC5 of the engine and what is proved with it; nothing is assumed. -/
import Derived.Test.YtdplchkljbfjdaaGreatDoorLaw
set_option linter.unusedVariables false
set_option linter.unusedSimpArgs false
set_option maxRecDepth 100000
namespace Go.R5.VC
open Go.Eng Go.R5
theorem case_0_5 (z0 z1 : Int) : t_f8 (lpF 2000) G0 (runS (FS (lpF 2000) G0) 2000) z0 z1 0 5 .e 0 isT = True := by kernel_rfl
theorem case_1_5 (z0 z1 : Int) : t_f8 (lpF 2000) G0 (runS (FS (lpF 2000) G0) 2000) z0 z1 1 5 .e 0 isT = True := by kernel_rfl
theorem case_2_5 (z0 z1 : Int) : t_f8 (lpF 2000) G0 (runS (FS (lpF 2000) G0) 2000) z0 z1 2 5 .e 0 isT = True := by kernel_rfl
theorem case_3_5 (z0 z1 : Int) : t_f8 (lpF 2000) G0 (runS (FS (lpF 2000) G0) 2000) z0 z1 3 5 .e 0 isT = True := by kernel_rfl
theorem case_4_5 (z0 z1 : Int) : t_f8 (lpF 2000) G0 (runS (FS (lpF 2000) G0) 2000) z0 z1 4 5 .e 0 isT = True := by kernel_rfl
theorem case_5_5 (z0 z1 : Int) : t_f8 (lpF 2000) G0 (runS (FS (lpF 2000) G0) 2000) z0 z1 5 5 .e 0 isT = True := by kernel_rfl
theorem case_6_5 (z0 z1 : Int) : t_f8 (lpF 2000) G0 (runS (FS (lpF 2000) G0) 2000) z0 z1 6 5 .e 0 isT = True := by kernel_rfl
theorem case_7_5 (z0 z1 : Int) : t_f8 (lpF 2000) G0 (runS (FS (lpF 2000) G0) 2000) z0 z1 7 5 .e 0 isT = True := by kernel_rfl
theorem case_8_5 (z0 z1 : Int) : t_f8 (lpF 2000) G0 (runS (FS (lpF 2000) G0) 2000) z0 z1 8 5 .e 0 isT = True := by kernel_rfl
theorem case_9_5 (z0 z1 : Int) : t_f8 (lpF 2000) G0 (runS (FS (lpF 2000) G0) 2000) z0 z1 9 5 .e 0 isT = True := by kernel_rfl
theorem case_10_5 (z0 z1 : Int) : t_f8 (lpF 2000) G0 (runS (FS (lpF 2000) G0) 2000) z0 z1 10 5 .e 0 isT = True := by kernel_rfl
theorem case_11_5 (z0 z1 : Int) : t_f8 (lpF 2000) G0 (runS (FS (lpF 2000) G0) 2000) z0 z1 11 5 .e 0 isT = True := by kernel_rfl
theorem case_12_5 (z0 z1 : Int) : t_f8 (lpF 2000) G0 (runS (FS (lpF 2000) G0) 2000) z0 z1 12 5 .e 0 isT = True := by kernel_rfl
theorem case_13_5 (z0 z1 : Int) : t_f8 (lpF 2000) G0 (runS (FS (lpF 2000) G0) 2000) z0 z1 13 5 .e 0 isT = True := by kernel_rfl
theorem case_14_5 (z0 z1 : Int) : t_f8 (lpF 2000) G0 (runS (FS (lpF 2000) G0) 2000) z0 z1 14 5 .e 0 isT = True := by kernel_rfl
theorem case_15_5 (z0 z1 : Int) : t_f8 (lpF 2000) G0 (runS (FS (lpF 2000) G0) 2000) z0 z1 15 5 .e 0 isT = True := by kernel_rfl
end Go.R5.VC

