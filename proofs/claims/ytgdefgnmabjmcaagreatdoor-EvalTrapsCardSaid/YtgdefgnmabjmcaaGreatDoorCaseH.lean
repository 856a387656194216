/- Part of a proof: texts LD7 of the engine and what is proved with it; nothing is assumed. -/
import Derived.Test.YtgdefgnmabjmcaaGreatDoorLaw
set_option linter.unusedVariables false
set_option linter.unusedSimpArgs false
set_option maxRecDepth 100000
namespace Go.R3.LD
open Go.Eng Go.R3
theorem case_0_7 (z0 z1 : Int) : t_f8 (lpF 3000) G0 (runS (FS (lpF 3000) G0) 3000) z0 z1 0 7 .e 0 isT = True := by kernel_rfl
theorem case_1_5 (z0 z1 : Int) : t_f8 (lpF 3000) G0 (runS (FS (lpF 3000) G0) 3000) z0 z1 1 5 .e 0 isT = True := by kernel_rfl
theorem case_2_3 (z0 z1 : Int) : t_f8 (lpF 3000) G0 (runS (FS (lpF 3000) G0) 3000) z0 z1 2 3 .e 0 isT = True := by kernel_rfl
theorem case_3_1 (z0 z1 : Int) : t_f8 (lpF 3000) G0 (runS (FS (lpF 3000) G0) 3000) z0 z1 3 1 .e 0 isT = True := by kernel_rfl
theorem case_3_9 (z0 z1 : Int) : t_f8 (lpF 3000) G0 (runS (FS (lpF 3000) G0) 3000) z0 z1 3 9 .e 0 isT = True := by kernel_rfl
theorem case_4_7 (z0 z1 : Int) : t_f8 (lpF 3000) G0 (runS (FS (lpF 3000) G0) 3000) z0 z1 4 7 .e 0 isT = True := by kernel_rfl
theorem case_5_5 (z0 z1 : Int) : t_f8 (lpF 3000) G0 (runS (FS (lpF 3000) G0) 3000) z0 z1 5 5 .e 0 isT = True := by kernel_rfl
theorem case_6_3 (z0 z1 : Int) : t_f8 (lpF 3000) G0 (runS (FS (lpF 3000) G0) 3000) z0 z1 6 3 .e 0 isT = True := by kernel_rfl
theorem case_7_1 (z0 z1 : Int) : t_f8 (lpF 3000) G0 (runS (FS (lpF 3000) G0) 3000) z0 z1 7 1 .e 0 isT = True := by kernel_rfl
theorem case_7_9 (z0 z1 : Int) : t_f8 (lpF 3000) G0 (runS (FS (lpF 3000) G0) 3000) z0 z1 7 9 .e 0 isT = True := by kernel_rfl
theorem case_8_7 (z0 z1 : Int) : t_f8 (lpF 3000) G0 (runS (FS (lpF 3000) G0) 3000) z0 z1 8 7 .e 0 isT = True := by kernel_rfl
theorem case_9_5 (z0 z1 : Int) : t_f8 (lpF 3000) G0 (runS (FS (lpF 3000) G0) 3000) z0 z1 9 5 .e 0 isT = True := by kernel_rfl
theorem case_10_3 (z0 z1 : Int) : t_f8 (lpF 3000) G0 (runS (FS (lpF 3000) G0) 3000) z0 z1 10 3 .e 0 isT = True := by kernel_rfl
theorem case_11_1 (z0 z1 : Int) : t_f8 (lpF 3000) G0 (runS (FS (lpF 3000) G0) 3000) z0 z1 11 1 .e 0 isT = True := by kernel_rfl
theorem case_11_9 (z0 z1 : Int) : t_f8 (lpF 3000) G0 (runS (FS (lpF 3000) G0) 3000) z0 z1 11 9 .e 0 isT = True := by kernel_rfl
theorem case_12_7 (z0 z1 : Int) : t_f8 (lpF 3000) G0 (runS (FS (lpF 3000) G0) 3000) z0 z1 12 7 .e 0 isT = True := by kernel_rfl
theorem case_13_5 (z0 z1 : Int) : t_f8 (lpF 3000) G0 (runS (FS (lpF 3000) G0) 3000) z0 z1 13 5 .e 0 isT = True := by kernel_rfl
theorem case_14_3 (z0 z1 : Int) : t_f8 (lpF 3000) G0 (runS (FS (lpF 3000) G0) 3000) z0 z1 14 3 .e 0 isT = True := by kernel_rfl
theorem case_15_1 (z0 z1 : Int) : t_f8 (lpF 3000) G0 (runS (FS (lpF 3000) G0) 3000) z0 z1 15 1 .e 0 isT = True := by kernel_rfl
theorem case_15_9 (z0 z1 : Int) : t_f8 (lpF 3000) G0 (runS (FS (lpF 3000) G0) 3000) z0 z1 15 9 .e 0 isT = True := by kernel_rfl
end Go.R3.LD

