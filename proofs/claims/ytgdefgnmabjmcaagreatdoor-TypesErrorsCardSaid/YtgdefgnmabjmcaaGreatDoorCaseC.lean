/- Part of a proof: texts LA2 of the engine and what is proved with it; nothing is assumed. -/
import Derived.Test.YtgdefgnmabjmcaaGreatDoorLaw
set_option linter.unusedVariables false
set_option linter.unusedSimpArgs false
set_option maxRecDepth 100000
namespace Go.R3.LA
open Go.Eng Go.R3
theorem case_0_2 (z0 z1 : Int) : t_f3 (lpF 600) G0 (runS (FS (lpF 600) G0) 600) z0 z1 0 2 .e 0 isT = True := by kernel_rfl
theorem case_1_2 (z0 z1 : Int) : t_f3 (lpF 600) G0 (runS (FS (lpF 600) G0) 600) z0 z1 1 2 .e 0 isT = True := by kernel_rfl
theorem case_2_2 (z0 z1 : Int) : t_f3 (lpF 600) G0 (runS (FS (lpF 600) G0) 600) z0 z1 2 2 .e 0 isT = True := by kernel_rfl
theorem case_3_2 (z0 z1 : Int) : t_f3 (lpF 600) G0 (runS (FS (lpF 600) G0) 600) z0 z1 3 2 .e 0 isT = True := by kernel_rfl
theorem case_4_2 (z0 z1 : Int) : t_f3 (lpF 600) G0 (runS (FS (lpF 600) G0) 600) z0 z1 4 2 .e 0 isT = True := by kernel_rfl
theorem case_5_2 (z0 z1 : Int) : t_f3 (lpF 600) G0 (runS (FS (lpF 600) G0) 600) z0 z1 5 2 .e 0 isT = True := by kernel_rfl
theorem case_6_2 (z0 z1 : Int) : t_f3 (lpF 600) G0 (runS (FS (lpF 600) G0) 600) z0 z1 6 2 .e 0 isT = True := by kernel_rfl
theorem case_7_2 (z0 z1 : Int) : t_f3 (lpF 600) G0 (runS (FS (lpF 600) G0) 600) z0 z1 7 2 .e 0 isT = True := by kernel_rfl
theorem case_8_2 (z0 z1 : Int) : t_f3 (lpF 600) G0 (runS (FS (lpF 600) G0) 600) z0 z1 8 2 .e 0 isT = True := by kernel_rfl
theorem case_9_2 (z0 z1 : Int) : t_f3 (lpF 600) G0 (runS (FS (lpF 600) G0) 600) z0 z1 9 2 .e 0 isT = True := by kernel_rfl
theorem case_10_2 (z0 z1 : Int) : t_f3 (lpF 600) G0 (runS (FS (lpF 600) G0) 600) z0 z1 10 2 .e 0 isT = True := by kernel_rfl
theorem case_11_2 (z0 z1 : Int) : t_f3 (lpF 600) G0 (runS (FS (lpF 600) G0) 600) z0 z1 11 2 .e 0 isT = True := by kernel_rfl
theorem case_12_2 (z0 z1 : Int) : t_f3 (lpF 600) G0 (runS (FS (lpF 600) G0) 600) z0 z1 12 2 .e 0 isT = True := by kernel_rfl
theorem case_13_2 (z0 z1 : Int) : t_f3 (lpF 600) G0 (runS (FS (lpF 600) G0) 600) z0 z1 13 2 .e 0 isT = True := by kernel_rfl
theorem case_14_2 (z0 z1 : Int) : t_f3 (lpF 600) G0 (runS (FS (lpF 600) G0) 600) z0 z1 14 2 .e 0 isT = True := by kernel_rfl
theorem case_15_2 (z0 z1 : Int) : t_f3 (lpF 600) G0 (runS (FS (lpF 600) G0) 600) z0 z1 15 2 .e 0 isT = True := by kernel_rfl
theorem case_16_2 (z0 z1 : Int) : t_f3 (lpF 600) G0 (runS (FS (lpF 600) G0) 600) z0 z1 16 2 .e 0 isT = True := by kernel_rfl
theorem case_17_2 (z0 z1 : Int) : t_f3 (lpF 600) G0 (runS (FS (lpF 600) G0) 600) z0 z1 17 2 .e 0 isT = True := by kernel_rfl
theorem case_18_2 (z0 z1 : Int) : t_f3 (lpF 600) G0 (runS (FS (lpF 600) G0) 600) z0 z1 18 2 .e 0 isT = True := by kernel_rfl
theorem case_19_2 (z0 z1 : Int) : t_f3 (lpF 600) G0 (runS (FS (lpF 600) G0) 600) z0 z1 19 2 .e 0 isT = True := by kernel_rfl
end Go.R3.LA

