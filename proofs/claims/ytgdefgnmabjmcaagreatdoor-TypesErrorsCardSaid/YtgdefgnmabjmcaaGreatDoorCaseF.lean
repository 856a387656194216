/- Part of a proof: texts LA5 of the engine and what is proved with it; nothing is assumed. -/
import Derived.Test.YtgdefgnmabjmcaaGreatDoorLaw
set_option linter.unusedVariables false
set_option linter.unusedSimpArgs false
set_option maxRecDepth 100000
namespace Go.R3.LA
open Go.Eng Go.R3
theorem case_0_5 (z0 z1 : Int) : t_f3 (lpF 600) G0 (runS (FS (lpF 600) G0) 600) z0 z1 0 5 .e 0 isT = True := by kernel_rfl
theorem case_1_5 (z0 z1 : Int) : t_f3 (lpF 600) G0 (runS (FS (lpF 600) G0) 600) z0 z1 1 5 .e 0 isT = True := by kernel_rfl
theorem case_2_5 (z0 z1 : Int) : t_f3 (lpF 600) G0 (runS (FS (lpF 600) G0) 600) z0 z1 2 5 .e 0 isT = True := by kernel_rfl
theorem case_3_5 (z0 z1 : Int) : t_f3 (lpF 600) G0 (runS (FS (lpF 600) G0) 600) z0 z1 3 5 .e 0 isT = True := by kernel_rfl
theorem case_4_5 (z0 z1 : Int) : t_f3 (lpF 600) G0 (runS (FS (lpF 600) G0) 600) z0 z1 4 5 .e 0 isT = True := by kernel_rfl
theorem case_5_5 (z0 z1 : Int) : t_f3 (lpF 600) G0 (runS (FS (lpF 600) G0) 600) z0 z1 5 5 .e 0 isT = True := by kernel_rfl
theorem case_6_5 (z0 z1 : Int) : t_f3 (lpF 600) G0 (runS (FS (lpF 600) G0) 600) z0 z1 6 5 .e 0 isT = True := by kernel_rfl
theorem case_7_5 (z0 z1 : Int) : t_f3 (lpF 600) G0 (runS (FS (lpF 600) G0) 600) z0 z1 7 5 .e 0 isT = True := by kernel_rfl
theorem case_8_5 (z0 z1 : Int) : t_f3 (lpF 600) G0 (runS (FS (lpF 600) G0) 600) z0 z1 8 5 .e 0 isT = True := by kernel_rfl
theorem case_9_5 (z0 z1 : Int) : t_f3 (lpF 600) G0 (runS (FS (lpF 600) G0) 600) z0 z1 9 5 .e 0 isT = True := by kernel_rfl
theorem case_10_5 (z0 z1 : Int) : t_f3 (lpF 600) G0 (runS (FS (lpF 600) G0) 600) z0 z1 10 5 .e 0 isT = True := by kernel_rfl
theorem case_11_5 (z0 z1 : Int) : t_f3 (lpF 600) G0 (runS (FS (lpF 600) G0) 600) z0 z1 11 5 .e 0 isT = True := by kernel_rfl
theorem case_12_5 (z0 z1 : Int) : t_f3 (lpF 600) G0 (runS (FS (lpF 600) G0) 600) z0 z1 12 5 .e 0 isT = True := by kernel_rfl
theorem case_13_5 (z0 z1 : Int) : t_f3 (lpF 600) G0 (runS (FS (lpF 600) G0) 600) z0 z1 13 5 .e 0 isT = True := by kernel_rfl
theorem case_14_5 (z0 z1 : Int) : t_f3 (lpF 600) G0 (runS (FS (lpF 600) G0) 600) z0 z1 14 5 .e 0 isT = True := by kernel_rfl
theorem case_15_5 (z0 z1 : Int) : t_f3 (lpF 600) G0 (runS (FS (lpF 600) G0) 600) z0 z1 15 5 .e 0 isT = True := by kernel_rfl
theorem case_16_5 (z0 z1 : Int) : t_f3 (lpF 600) G0 (runS (FS (lpF 600) G0) 600) z0 z1 16 5 .e 0 isT = True := by kernel_rfl
theorem case_17_5 (z0 z1 : Int) : t_f3 (lpF 600) G0 (runS (FS (lpF 600) G0) 600) z0 z1 17 5 .e 0 isT = True := by kernel_rfl
theorem case_18_5 (z0 z1 : Int) : t_f3 (lpF 600) G0 (runS (FS (lpF 600) G0) 600) z0 z1 18 5 .e 0 isT = True := by kernel_rfl
theorem case_19_5 (z0 z1 : Int) : t_f3 (lpF 600) G0 (runS (FS (lpF 600) G0) 600) z0 z1 19 5 .e 0 isT = True := by kernel_rfl
end Go.R3.LA

