/- Part of a proof: texts VC4 of the engine and what is proved with it; nothing is assumed. -/
import Derived.Test.YtdplchkljbfjdaaGreatDoorLaw
set_option linter.unusedVariables false
set_option linter.unusedSimpArgs false
set_option maxRecDepth 100000
namespace Go.R5.VC
open Go.Eng Go.R5
theorem case_0_4 (z0 z1 : Int) : t_f8 (lpF 2000) G0 (runS (FS (lpF 2000) G0) 2000) z0 z1 0 4 .e 0 isT = True := by kernel_rfl
theorem case_1_4 (z0 z1 : Int) : t_f8 (lpF 2000) G0 (runS (FS (lpF 2000) G0) 2000) z0 z1 1 4 .e 0 isT = True := by kernel_rfl
theorem case_2_4 (z0 z1 : Int) : t_f8 (lpF 2000) G0 (runS (FS (lpF 2000) G0) 2000) z0 z1 2 4 .e 0 isT = True := by kernel_rfl
theorem case_3_4 (z0 z1 : Int) : t_f8 (lpF 2000) G0 (runS (FS (lpF 2000) G0) 2000) z0 z1 3 4 .e 0 isT = True := by kernel_rfl
theorem case_4_4 (z0 z1 : Int) : t_f8 (lpF 2000) G0 (runS (FS (lpF 2000) G0) 2000) z0 z1 4 4 .e 0 isT = True := by kernel_rfl
theorem case_5_4 (z0 z1 : Int) : t_f8 (lpF 2000) G0 (runS (FS (lpF 2000) G0) 2000) z0 z1 5 4 .e 0 isT = True := by kernel_rfl
theorem case_6_4 (z0 z1 : Int) : t_f8 (lpF 2000) G0 (runS (FS (lpF 2000) G0) 2000) z0 z1 6 4 .e 0 isT = True := by kernel_rfl
theorem case_7_4 (z0 z1 : Int) : t_f8 (lpF 2000) G0 (runS (FS (lpF 2000) G0) 2000) z0 z1 7 4 .e 0 isT = True := by kernel_rfl
theorem case_8_4 (z0 z1 : Int) : t_f8 (lpF 2000) G0 (runS (FS (lpF 2000) G0) 2000) z0 z1 8 4 .e 0 isT = True := by kernel_rfl
theorem case_9_4 (z0 z1 : Int) : t_f8 (lpF 2000) G0 (runS (FS (lpF 2000) G0) 2000) z0 z1 9 4 .e 0 isT = True := by kernel_rfl
theorem case_10_4 (z0 z1 : Int) : t_f8 (lpF 2000) G0 (runS (FS (lpF 2000) G0) 2000) z0 z1 10 4 .e 0 isT = True := by kernel_rfl
theorem case_11_4 (z0 z1 : Int) : t_f8 (lpF 2000) G0 (runS (FS (lpF 2000) G0) 2000) z0 z1 11 4 .e 0 isT = True := by kernel_rfl
theorem case_12_4 (z0 z1 : Int) : t_f8 (lpF 2000) G0 (runS (FS (lpF 2000) G0) 2000) z0 z1 12 4 .e 0 isT = True := by kernel_rfl
theorem case_13_4 (z0 z1 : Int) : t_f8 (lpF 2000) G0 (runS (FS (lpF 2000) G0) 2000) z0 z1 13 4 .e 0 isT = True := by kernel_rfl
theorem case_14_4 (z0 z1 : Int) : t_f8 (lpF 2000) G0 (runS (FS (lpF 2000) G0) 2000) z0 z1 14 4 .e 0 isT = True := by kernel_rfl
theorem case_15_4 (z0 z1 : Int) : t_f8 (lpF 2000) G0 (runS (FS (lpF 2000) G0) 2000) z0 z1 15 4 .e 0 isT = True := by kernel_rfl
end Go.R5.VC

