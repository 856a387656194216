/- Part of a proof: texts LD1 of the engine and what is proved with it; nothing is assumed. -/
import Derived.Test.YtgdefgnmabjmcaaGreatDoorLaw
set_option linter.unusedVariables false
set_option linter.unusedSimpArgs false
set_option maxRecDepth 100000
namespace Go.R3.LD
open Go.Eng Go.R3
theorem case_0_1 (z0 z1 : Int) : t_f8 (lpF 3000) G0 (runS (FS (lpF 3000) G0) 3000) z0 z1 0 1 .e 0 isT = True := by kernel_rfl
theorem case_0_9 (z0 z1 : Int) : t_f8 (lpF 3000) G0 (runS (FS (lpF 3000) G0) 3000) z0 z1 0 9 .e 0 isT = True := by kernel_rfl
theorem case_1_7 (z0 z1 : Int) : t_f8 (lpF 3000) G0 (runS (FS (lpF 3000) G0) 3000) z0 z1 1 7 .e 0 isT = True := by kernel_rfl
theorem case_2_5 (z0 z1 : Int) : t_f8 (lpF 3000) G0 (runS (FS (lpF 3000) G0) 3000) z0 z1 2 5 .e 0 isT = True := by kernel_rfl
theorem case_3_3 (z0 z1 : Int) : t_f8 (lpF 3000) G0 (runS (FS (lpF 3000) G0) 3000) z0 z1 3 3 .e 0 isT = True := by kernel_rfl
theorem case_4_1 (z0 z1 : Int) : t_f8 (lpF 3000) G0 (runS (FS (lpF 3000) G0) 3000) z0 z1 4 1 .e 0 isT = True := by kernel_rfl
theorem case_4_9 (z0 z1 : Int) : t_f8 (lpF 3000) G0 (runS (FS (lpF 3000) G0) 3000) z0 z1 4 9 .e 0 isT = True := by kernel_rfl
theorem case_5_7 (z0 z1 : Int) : t_f8 (lpF 3000) G0 (runS (FS (lpF 3000) G0) 3000) z0 z1 5 7 .e 0 isT = True := by kernel_rfl
theorem case_6_5 (z0 z1 : Int) : t_f8 (lpF 3000) G0 (runS (FS (lpF 3000) G0) 3000) z0 z1 6 5 .e 0 isT = True := by kernel_rfl
theorem case_7_3 (z0 z1 : Int) : t_f8 (lpF 3000) G0 (runS (FS (lpF 3000) G0) 3000) z0 z1 7 3 .e 0 isT = True := by kernel_rfl
theorem case_8_1 (z0 z1 : Int) : t_f8 (lpF 3000) G0 (runS (FS (lpF 3000) G0) 3000) z0 z1 8 1 .e 0 isT = True := by kernel_rfl
theorem case_8_9 (z0 z1 : Int) : t_f8 (lpF 3000) G0 (runS (FS (lpF 3000) G0) 3000) z0 z1 8 9 .e 0 isT = True := by kernel_rfl
theorem case_9_7 (z0 z1 : Int) : t_f8 (lpF 3000) G0 (runS (FS (lpF 3000) G0) 3000) z0 z1 9 7 .e 0 isT = True := by kernel_rfl
theorem case_10_5 (z0 z1 : Int) : t_f8 (lpF 3000) G0 (runS (FS (lpF 3000) G0) 3000) z0 z1 10 5 .e 0 isT = True := by kernel_rfl
theorem case_11_3 (z0 z1 : Int) : t_f8 (lpF 3000) G0 (runS (FS (lpF 3000) G0) 3000) z0 z1 11 3 .e 0 isT = True := by kernel_rfl
theorem case_12_1 (z0 z1 : Int) : t_f8 (lpF 3000) G0 (runS (FS (lpF 3000) G0) 3000) z0 z1 12 1 .e 0 isT = True := by kernel_rfl
theorem case_12_9 (z0 z1 : Int) : t_f8 (lpF 3000) G0 (runS (FS (lpF 3000) G0) 3000) z0 z1 12 9 .e 0 isT = True := by kernel_rfl
theorem case_13_7 (z0 z1 : Int) : t_f8 (lpF 3000) G0 (runS (FS (lpF 3000) G0) 3000) z0 z1 13 7 .e 0 isT = True := by kernel_rfl
theorem case_14_5 (z0 z1 : Int) : t_f8 (lpF 3000) G0 (runS (FS (lpF 3000) G0) 3000) z0 z1 14 5 .e 0 isT = True := by kernel_rfl
theorem case_15_3 (z0 z1 : Int) : t_f8 (lpF 3000) G0 (runS (FS (lpF 3000) G0) 3000) z0 z1 15 3 .e 0 isT = True := by kernel_rfl
end Go.R3.LD

