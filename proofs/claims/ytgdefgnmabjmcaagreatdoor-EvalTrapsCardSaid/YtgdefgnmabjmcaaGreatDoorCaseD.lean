/- Part of a proof: texts LD3 of the engine and what is proved with it; nothing is assumed. -/
import Derived.Test.YtgdefgnmabjmcaaGreatDoorLaw
set_option linter.unusedVariables false
set_option linter.unusedSimpArgs false
set_option maxRecDepth 100000
namespace Go.R3.LD
open Go.Eng Go.R3
theorem case_0_3 (z0 z1 : Int) : t_f8 (lpF 3000) G0 (runS (FS (lpF 3000) G0) 3000) z0 z1 0 3 .e 0 isT = True := by kernel_rfl
theorem case_1_1 (z0 z1 : Int) : t_f8 (lpF 3000) G0 (runS (FS (lpF 3000) G0) 3000) z0 z1 1 1 .e 0 isT = True := by kernel_rfl
theorem case_1_9 (z0 z1 : Int) : t_f8 (lpF 3000) G0 (runS (FS (lpF 3000) G0) 3000) z0 z1 1 9 .e 0 isT = True := by kernel_rfl
theorem case_2_7 (z0 z1 : Int) : t_f8 (lpF 3000) G0 (runS (FS (lpF 3000) G0) 3000) z0 z1 2 7 .e 0 isT = True := by kernel_rfl
theorem case_3_5 (z0 z1 : Int) : t_f8 (lpF 3000) G0 (runS (FS (lpF 3000) G0) 3000) z0 z1 3 5 .e 0 isT = True := by kernel_rfl
theorem case_4_3 (z0 z1 : Int) : t_f8 (lpF 3000) G0 (runS (FS (lpF 3000) G0) 3000) z0 z1 4 3 .e 0 isT = True := by kernel_rfl
theorem case_5_1 (z0 z1 : Int) : t_f8 (lpF 3000) G0 (runS (FS (lpF 3000) G0) 3000) z0 z1 5 1 .e 0 isT = True := by kernel_rfl
theorem case_5_9 (z0 z1 : Int) : t_f8 (lpF 3000) G0 (runS (FS (lpF 3000) G0) 3000) z0 z1 5 9 .e 0 isT = True := by kernel_rfl
theorem case_6_7 (z0 z1 : Int) : t_f8 (lpF 3000) G0 (runS (FS (lpF 3000) G0) 3000) z0 z1 6 7 .e 0 isT = True := by kernel_rfl
theorem case_7_5 (z0 z1 : Int) : t_f8 (lpF 3000) G0 (runS (FS (lpF 3000) G0) 3000) z0 z1 7 5 .e 0 isT = True := by kernel_rfl
theorem case_8_3 (z0 z1 : Int) : t_f8 (lpF 3000) G0 (runS (FS (lpF 3000) G0) 3000) z0 z1 8 3 .e 0 isT = True := by kernel_rfl
theorem case_9_1 (z0 z1 : Int) : t_f8 (lpF 3000) G0 (runS (FS (lpF 3000) G0) 3000) z0 z1 9 1 .e 0 isT = True := by kernel_rfl
theorem case_9_9 (z0 z1 : Int) : t_f8 (lpF 3000) G0 (runS (FS (lpF 3000) G0) 3000) z0 z1 9 9 .e 0 isT = True := by kernel_rfl
theorem case_10_7 (z0 z1 : Int) : t_f8 (lpF 3000) G0 (runS (FS (lpF 3000) G0) 3000) z0 z1 10 7 .e 0 isT = True := by kernel_rfl
theorem case_11_5 (z0 z1 : Int) : t_f8 (lpF 3000) G0 (runS (FS (lpF 3000) G0) 3000) z0 z1 11 5 .e 0 isT = True := by kernel_rfl
theorem case_12_3 (z0 z1 : Int) : t_f8 (lpF 3000) G0 (runS (FS (lpF 3000) G0) 3000) z0 z1 12 3 .e 0 isT = True := by kernel_rfl
theorem case_13_1 (z0 z1 : Int) : t_f8 (lpF 3000) G0 (runS (FS (lpF 3000) G0) 3000) z0 z1 13 1 .e 0 isT = True := by kernel_rfl
theorem case_13_9 (z0 z1 : Int) : t_f8 (lpF 3000) G0 (runS (FS (lpF 3000) G0) 3000) z0 z1 13 9 .e 0 isT = True := by kernel_rfl
theorem case_14_7 (z0 z1 : Int) : t_f8 (lpF 3000) G0 (runS (FS (lpF 3000) G0) 3000) z0 z1 14 7 .e 0 isT = True := by kernel_rfl
theorem case_15_5 (z0 z1 : Int) : t_f8 (lpF 3000) G0 (runS (FS (lpF 3000) G0) 3000) z0 z1 15 5 .e 0 isT = True := by kernel_rfl
end Go.R3.LD

