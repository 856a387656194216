/- Part of a proof: texts LD6 of the engine and what is proved with it; nothing is assumed. -/
import Derived.Test.YtgdefgnmabjmcaaGreatDoorLaw
set_option linter.unusedVariables false
set_option linter.unusedSimpArgs false
set_option maxRecDepth 100000
namespace Go.R3.LD
open Go.Eng Go.R3
theorem case_0_6 (z0 z1 : Int) : t_f8 (lpF 3000) G0 (runS (FS (lpF 3000) G0) 3000) z0 z1 0 6 .e 0 isT = True := by kernel_rfl
theorem case_1_4 (z0 z1 : Int) : t_f8 (lpF 3000) G0 (runS (FS (lpF 3000) G0) 3000) z0 z1 1 4 .e 0 isT = True := by kernel_rfl
theorem case_2_2 (z0 z1 : Int) : t_f8 (lpF 3000) G0 (runS (FS (lpF 3000) G0) 3000) z0 z1 2 2 .e 0 isT = True := by kernel_rfl
theorem case_3_0 (z0 z1 : Int) : t_f8 (lpF 3000) G0 (runS (FS (lpF 3000) G0) 3000) z0 z1 3 0 .e 0 isT = True := by kernel_rfl
theorem case_3_8 (z0 z1 : Int) : t_f8 (lpF 3000) G0 (runS (FS (lpF 3000) G0) 3000) z0 z1 3 8 .e 0 isT = True := by kernel_rfl
theorem case_4_6 (z0 z1 : Int) : t_f8 (lpF 3000) G0 (runS (FS (lpF 3000) G0) 3000) z0 z1 4 6 .e 0 isT = True := by kernel_rfl
theorem case_5_4 (z0 z1 : Int) : t_f8 (lpF 3000) G0 (runS (FS (lpF 3000) G0) 3000) z0 z1 5 4 .e 0 isT = True := by kernel_rfl
theorem case_6_2 (z0 z1 : Int) : t_f8 (lpF 3000) G0 (runS (FS (lpF 3000) G0) 3000) z0 z1 6 2 .e 0 isT = True := by kernel_rfl
theorem case_7_0 (z0 z1 : Int) : t_f8 (lpF 3000) G0 (runS (FS (lpF 3000) G0) 3000) z0 z1 7 0 .e 0 isT = True := by kernel_rfl
theorem case_7_8 (z0 z1 : Int) : t_f8 (lpF 3000) G0 (runS (FS (lpF 3000) G0) 3000) z0 z1 7 8 .e 0 isT = True := by kernel_rfl
theorem case_8_6 (z0 z1 : Int) : t_f8 (lpF 3000) G0 (runS (FS (lpF 3000) G0) 3000) z0 z1 8 6 .e 0 isT = True := by kernel_rfl
theorem case_9_4 (z0 z1 : Int) : t_f8 (lpF 3000) G0 (runS (FS (lpF 3000) G0) 3000) z0 z1 9 4 .e 0 isT = True := by kernel_rfl
theorem case_10_2 (z0 z1 : Int) : t_f8 (lpF 3000) G0 (runS (FS (lpF 3000) G0) 3000) z0 z1 10 2 .e 0 isT = True := by kernel_rfl
theorem case_11_0 (z0 z1 : Int) : t_f8 (lpF 3000) G0 (runS (FS (lpF 3000) G0) 3000) z0 z1 11 0 .e 0 isT = True := by kernel_rfl
theorem case_11_8 (z0 z1 : Int) : t_f8 (lpF 3000) G0 (runS (FS (lpF 3000) G0) 3000) z0 z1 11 8 .e 0 isT = True := by kernel_rfl
theorem case_12_6 (z0 z1 : Int) : t_f8 (lpF 3000) G0 (runS (FS (lpF 3000) G0) 3000) z0 z1 12 6 .e 0 isT = True := by kernel_rfl
theorem case_13_4 (z0 z1 : Int) : t_f8 (lpF 3000) G0 (runS (FS (lpF 3000) G0) 3000) z0 z1 13 4 .e 0 isT = True := by kernel_rfl
theorem case_14_2 (z0 z1 : Int) : t_f8 (lpF 3000) G0 (runS (FS (lpF 3000) G0) 3000) z0 z1 14 2 .e 0 isT = True := by kernel_rfl
theorem case_15_0 (z0 z1 : Int) : t_f8 (lpF 3000) G0 (runS (FS (lpF 3000) G0) 3000) z0 z1 15 0 .e 0 isT = True := by kernel_rfl
theorem case_15_8 (z0 z1 : Int) : t_f8 (lpF 3000) G0 (runS (FS (lpF 3000) G0) 3000) z0 z1 15 8 .e 0 isT = True := by kernel_rfl
end Go.R3.LD

