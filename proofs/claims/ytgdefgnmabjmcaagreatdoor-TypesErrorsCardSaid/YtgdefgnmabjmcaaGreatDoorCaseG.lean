/- Part of a proof: texts LA6 of the engine and what is proved with it; nothing is assumed. -/
import Derived.Test.YtgdefgnmabjmcaaGreatDoorLaw
set_option linter.unusedVariables false
set_option linter.unusedSimpArgs false
set_option maxRecDepth 100000
namespace Go.R3.LA
open Go.Eng Go.R3
theorem case_0_6 (z0 z1 : Int) : t_f3 (lpF 600) G0 (runS (FS (lpF 600) G0) 600) z0 z1 0 6 .e 0 isT = True := by kernel_rfl
theorem case_1_6 (z0 z1 : Int) : t_f3 (lpF 600) G0 (runS (FS (lpF 600) G0) 600) z0 z1 1 6 .e 0 isT = True := by kernel_rfl
theorem case_2_6 (z0 z1 : Int) : t_f3 (lpF 600) G0 (runS (FS (lpF 600) G0) 600) z0 z1 2 6 .e 0 isT = True := by kernel_rfl
theorem case_3_6 (z0 z1 : Int) : t_f3 (lpF 600) G0 (runS (FS (lpF 600) G0) 600) z0 z1 3 6 .e 0 isT = True := by kernel_rfl
theorem case_4_6 (z0 z1 : Int) : t_f3 (lpF 600) G0 (runS (FS (lpF 600) G0) 600) z0 z1 4 6 .e 0 isT = True := by kernel_rfl
theorem case_5_6 (z0 z1 : Int) : t_f3 (lpF 600) G0 (runS (FS (lpF 600) G0) 600) z0 z1 5 6 .e 0 isT = True := by kernel_rfl
theorem case_6_6 (z0 z1 : Int) : t_f3 (lpF 600) G0 (runS (FS (lpF 600) G0) 600) z0 z1 6 6 .e 0 isT = True := by kernel_rfl
theorem case_7_6 (z0 z1 : Int) : t_f3 (lpF 600) G0 (runS (FS (lpF 600) G0) 600) z0 z1 7 6 .e 0 isT = True := by kernel_rfl
theorem case_8_6 (z0 z1 : Int) : t_f3 (lpF 600) G0 (runS (FS (lpF 600) G0) 600) z0 z1 8 6 .e 0 isT = True := by kernel_rfl
theorem case_9_6 (z0 z1 : Int) : t_f3 (lpF 600) G0 (runS (FS (lpF 600) G0) 600) z0 z1 9 6 .e 0 isT = True := by kernel_rfl
theorem case_10_6 (z0 z1 : Int) : t_f3 (lpF 600) G0 (runS (FS (lpF 600) G0) 600) z0 z1 10 6 .e 0 isT = True := by kernel_rfl
theorem case_11_6 (z0 z1 : Int) : t_f3 (lpF 600) G0 (runS (FS (lpF 600) G0) 600) z0 z1 11 6 .e 0 isT = True := by kernel_rfl
theorem case_12_6 (z0 z1 : Int) : t_f3 (lpF 600) G0 (runS (FS (lpF 600) G0) 600) z0 z1 12 6 .e 0 isT = True := by kernel_rfl
theorem case_13_6 (z0 z1 : Int) : t_f3 (lpF 600) G0 (runS (FS (lpF 600) G0) 600) z0 z1 13 6 .e 0 isT = True := by kernel_rfl
theorem case_14_6 (z0 z1 : Int) : t_f3 (lpF 600) G0 (runS (FS (lpF 600) G0) 600) z0 z1 14 6 .e 0 isT = True := by kernel_rfl
theorem case_15_6 (z0 z1 : Int) : t_f3 (lpF 600) G0 (runS (FS (lpF 600) G0) 600) z0 z1 15 6 .e 0 isT = True := by kernel_rfl
theorem case_16_6 (z0 z1 : Int) : t_f3 (lpF 600) G0 (runS (FS (lpF 600) G0) 600) z0 z1 16 6 .e 0 isT = True := by kernel_rfl
theorem case_17_6 (z0 z1 : Int) : t_f3 (lpF 600) G0 (runS (FS (lpF 600) G0) 600) z0 z1 17 6 .e 0 isT = True := by kernel_rfl
theorem case_18_6 (z0 z1 : Int) : t_f3 (lpF 600) G0 (runS (FS (lpF 600) G0) 600) z0 z1 18 6 .e 0 isT = True := by kernel_rfl
theorem case_19_6 (z0 z1 : Int) : t_f3 (lpF 600) G0 (runS (FS (lpF 600) G0) 600) z0 z1 19 6 .e 0 isT = True := by kernel_rfl
end Go.R3.LA

