/- Part of a proof: texts VC2 of the engine and what is proved with it; nothing is assumed. -/
import Derived.Test.YtdplchkljbfjdaaGreatDoorLaw
set_option linter.unusedVariables false
set_option linter.unusedSimpArgs false
set_option maxRecDepth 100000
namespace Go.R5.VC
open Go.Eng Go.R5
theorem case_0_2 (z0 z1 : Int) : t_f8 (lpF 2000) G0 (runS (FS (lpF 2000) G0) 2000) z0 z1 0 2 .e 0 isT = True := by kernel_rfl
theorem case_1_2 (z0 z1 : Int) : t_f8 (lpF 2000) G0 (runS (FS (lpF 2000) G0) 2000) z0 z1 1 2 .e 0 isT = True := by kernel_rfl
theorem case_2_2 (z0 z1 : Int) : t_f8 (lpF 2000) G0 (runS (FS (lpF 2000) G0) 2000) z0 z1 2 2 .e 0 isT = True := by kernel_rfl
theorem case_3_2 (z0 z1 : Int) : t_f8 (lpF 2000) G0 (runS (FS (lpF 2000) G0) 2000) z0 z1 3 2 .e 0 isT = True := by kernel_rfl
theorem case_4_2 (z0 z1 : Int) : t_f8 (lpF 2000) G0 (runS (FS (lpF 2000) G0) 2000) z0 z1 4 2 .e 0 isT = True := by kernel_rfl
theorem case_5_2 (z0 z1 : Int) : t_f8 (lpF 2000) G0 (runS (FS (lpF 2000) G0) 2000) z0 z1 5 2 .e 0 isT = True := by kernel_rfl
theorem case_6_2 (z0 z1 : Int) : t_f8 (lpF 2000) G0 (runS (FS (lpF 2000) G0) 2000) z0 z1 6 2 .e 0 isT = True := by kernel_rfl
theorem case_7_2 (z0 z1 : Int) : t_f8 (lpF 2000) G0 (runS (FS (lpF 2000) G0) 2000) z0 z1 7 2 .e 0 isT = True := by kernel_rfl
theorem case_8_2 (z0 z1 : Int) : t_f8 (lpF 2000) G0 (runS (FS (lpF 2000) G0) 2000) z0 z1 8 2 .e 0 isT = True := by kernel_rfl
theorem case_9_2 (z0 z1 : Int) : t_f8 (lpF 2000) G0 (runS (FS (lpF 2000) G0) 2000) z0 z1 9 2 .e 0 isT = True := by kernel_rfl
theorem case_10_2 (z0 z1 : Int) : t_f8 (lpF 2000) G0 (runS (FS (lpF 2000) G0) 2000) z0 z1 10 2 .e 0 isT = True := by kernel_rfl
theorem case_11_2 (z0 z1 : Int) : t_f8 (lpF 2000) G0 (runS (FS (lpF 2000) G0) 2000) z0 z1 11 2 .e 0 isT = True := by kernel_rfl
theorem case_12_2 (z0 z1 : Int) : t_f8 (lpF 2000) G0 (runS (FS (lpF 2000) G0) 2000) z0 z1 12 2 .e 0 isT = True := by kernel_rfl
theorem case_13_2 (z0 z1 : Int) : t_f8 (lpF 2000) G0 (runS (FS (lpF 2000) G0) 2000) z0 z1 13 2 .e 0 isT = True := by kernel_rfl
theorem case_14_2 (z0 z1 : Int) : t_f8 (lpF 2000) G0 (runS (FS (lpF 2000) G0) 2000) z0 z1 14 2 .e 0 isT = True := by kernel_rfl
theorem case_15_2 (z0 z1 : Int) : t_f8 (lpF 2000) G0 (runS (FS (lpF 2000) G0) 2000) z0 z1 15 2 .e 0 isT = True := by kernel_rfl
end Go.R5.VC

