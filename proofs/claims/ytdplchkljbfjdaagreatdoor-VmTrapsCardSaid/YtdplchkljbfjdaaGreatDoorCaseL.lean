/- Part of a proof: texts VC11 of the engine and what is proved with it; nothing is assumed. -/
import Derived.Test.YtdplchkljbfjdaaGreatDoorLaw
set_option linter.unusedVariables false
set_option linter.unusedSimpArgs false
set_option maxRecDepth 100000
namespace Go.R5.VC
open Go.Eng Go.R5
theorem case_0_11 (z0 z1 : Int) : t_f8 (lpF 2000) G0 (runS (FS (lpF 2000) G0) 2000) z0 z1 0 11 .e 0 isT = True := by kernel_rfl
theorem case_1_11 (z0 z1 : Int) : t_f8 (lpF 2000) G0 (runS (FS (lpF 2000) G0) 2000) z0 z1 1 11 .e 0 isT = True := by kernel_rfl
theorem case_2_11 (z0 z1 : Int) : t_f8 (lpF 2000) G0 (runS (FS (lpF 2000) G0) 2000) z0 z1 2 11 .e 0 isT = True := by kernel_rfl
theorem case_3_11 (z0 z1 : Int) : t_f8 (lpF 2000) G0 (runS (FS (lpF 2000) G0) 2000) z0 z1 3 11 .e 0 isT = True := by kernel_rfl
theorem case_4_11 (z0 z1 : Int) : t_f8 (lpF 2000) G0 (runS (FS (lpF 2000) G0) 2000) z0 z1 4 11 .e 0 isT = True := by kernel_rfl
theorem case_5_11 (z0 z1 : Int) : t_f8 (lpF 2000) G0 (runS (FS (lpF 2000) G0) 2000) z0 z1 5 11 .e 0 isT = True := by kernel_rfl
theorem case_6_11 (z0 z1 : Int) : t_f8 (lpF 2000) G0 (runS (FS (lpF 2000) G0) 2000) z0 z1 6 11 .e 0 isT = True := by kernel_rfl
theorem case_7_11 (z0 z1 : Int) : t_f8 (lpF 2000) G0 (runS (FS (lpF 2000) G0) 2000) z0 z1 7 11 .e 0 isT = True := by kernel_rfl
theorem case_8_11 (z0 z1 : Int) : t_f8 (lpF 2000) G0 (runS (FS (lpF 2000) G0) 2000) z0 z1 8 11 .e 0 isT = True := by kernel_rfl
theorem case_9_11 (z0 z1 : Int) : t_f8 (lpF 2000) G0 (runS (FS (lpF 2000) G0) 2000) z0 z1 9 11 .e 0 isT = True := by kernel_rfl
theorem case_10_11 (z0 z1 : Int) : t_f8 (lpF 2000) G0 (runS (FS (lpF 2000) G0) 2000) z0 z1 10 11 .e 0 isT = True := by kernel_rfl
theorem case_11_11 (z0 z1 : Int) : t_f8 (lpF 2000) G0 (runS (FS (lpF 2000) G0) 2000) z0 z1 11 11 .e 0 isT = True := by kernel_rfl
theorem case_12_11 (z0 z1 : Int) : t_f8 (lpF 2000) G0 (runS (FS (lpF 2000) G0) 2000) z0 z1 12 11 .e 0 isT = True := by kernel_rfl
theorem case_13_11 (z0 z1 : Int) : t_f8 (lpF 2000) G0 (runS (FS (lpF 2000) G0) 2000) z0 z1 13 11 .e 0 isT = True := by kernel_rfl
theorem case_14_11 (z0 z1 : Int) : t_f8 (lpF 2000) G0 (runS (FS (lpF 2000) G0) 2000) z0 z1 14 11 .e 0 isT = True := by kernel_rfl
theorem case_15_11 (z0 z1 : Int) : t_f8 (lpF 2000) G0 (runS (FS (lpF 2000) G0) 2000) z0 z1 15 11 .e 0 isT = True := by kernel_rfl
end Go.R5.VC

