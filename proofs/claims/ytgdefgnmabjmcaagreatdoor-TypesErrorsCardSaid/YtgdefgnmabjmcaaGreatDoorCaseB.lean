/- Part of a proof: texts LA1 of the engine and what is proved with it; nothing is assumed. -/
import Derived.Test.YtgdefgnmabjmcaaGreatDoorLaw
set_option linter.unusedVariables false
set_option linter.unusedSimpArgs false
set_option maxRecDepth 100000
namespace Go.R3.LA
open Go.Eng Go.R3
theorem case_0_1 (z0 z1 : Int) : t_f3 (lpF 600) G0 (runS (FS (lpF 600) G0) 600) z0 z1 0 1 .e 0 isT = True := by kernel_rfl
theorem case_1_1 (z0 z1 : Int) : t_f3 (lpF 600) G0 (runS (FS (lpF 600) G0) 600) z0 z1 1 1 .e 0 isT = True := by kernel_rfl
theorem case_2_1 (z0 z1 : Int) : t_f3 (lpF 600) G0 (runS (FS (lpF 600) G0) 600) z0 z1 2 1 .e 0 isT = True := by kernel_rfl
theorem case_3_1 (z0 z1 : Int) : t_f3 (lpF 600) G0 (runS (FS (lpF 600) G0) 600) z0 z1 3 1 .e 0 isT = True := by kernel_rfl
theorem case_4_1 (z0 z1 : Int) : t_f3 (lpF 600) G0 (runS (FS (lpF 600) G0) 600) z0 z1 4 1 .e 0 isT = True := by kernel_rfl
theorem case_5_1 (z0 z1 : Int) : t_f3 (lpF 600) G0 (runS (FS (lpF 600) G0) 600) z0 z1 5 1 .e 0 isT = True := by kernel_rfl
theorem case_6_1 (z0 z1 : Int) : t_f3 (lpF 600) G0 (runS (FS (lpF 600) G0) 600) z0 z1 6 1 .e 0 isT = True := by kernel_rfl
theorem case_7_1 (z0 z1 : Int) : t_f3 (lpF 600) G0 (runS (FS (lpF 600) G0) 600) z0 z1 7 1 .e 0 isT = True := by kernel_rfl
theorem case_8_1 (z0 z1 : Int) : t_f3 (lpF 600) G0 (runS (FS (lpF 600) G0) 600) z0 z1 8 1 .e 0 isT = True := by kernel_rfl
theorem case_9_1 (z0 z1 : Int) : t_f3 (lpF 600) G0 (runS (FS (lpF 600) G0) 600) z0 z1 9 1 .e 0 isT = True := by kernel_rfl
theorem case_10_1 (z0 z1 : Int) : t_f3 (lpF 600) G0 (runS (FS (lpF 600) G0) 600) z0 z1 10 1 .e 0 isT = True := by kernel_rfl
theorem case_11_1 (z0 z1 : Int) : t_f3 (lpF 600) G0 (runS (FS (lpF 600) G0) 600) z0 z1 11 1 .e 0 isT = True := by kernel_rfl
theorem case_12_1 (z0 z1 : Int) : t_f3 (lpF 600) G0 (runS (FS (lpF 600) G0) 600) z0 z1 12 1 .e 0 isT = True := by kernel_rfl
theorem case_13_1 (z0 z1 : Int) : t_f3 (lpF 600) G0 (runS (FS (lpF 600) G0) 600) z0 z1 13 1 .e 0 isT = True := by kernel_rfl
theorem case_14_1 (z0 z1 : Int) : t_f3 (lpF 600) G0 (runS (FS (lpF 600) G0) 600) z0 z1 14 1 .e 0 isT = True := by kernel_rfl
theorem case_15_1 (z0 z1 : Int) : t_f3 (lpF 600) G0 (runS (FS (lpF 600) G0) 600) z0 z1 15 1 .e 0 isT = True := by kernel_rfl
theorem case_16_1 (z0 z1 : Int) : t_f3 (lpF 600) G0 (runS (FS (lpF 600) G0) 600) z0 z1 16 1 .e 0 isT = True := by kernel_rfl
theorem case_17_1 (z0 z1 : Int) : t_f3 (lpF 600) G0 (runS (FS (lpF 600) G0) 600) z0 z1 17 1 .e 0 isT = True := by kernel_rfl
theorem case_18_1 (z0 z1 : Int) : t_f3 (lpF 600) G0 (runS (FS (lpF 600) G0) 600) z0 z1 18 1 .e 0 isT = True := by kernel_rfl
theorem case_19_1 (z0 z1 : Int) : t_f3 (lpF 600) G0 (runS (FS (lpF 600) G0) 600) z0 z1 19 1 .e 0 isT = True := by kernel_rfl
end Go.R3.LA

