/- Part of a proof: texts LD5 of the engine and what is proved with it; nothing is assumed. -/
import Derived.Test.YtgdefgnmabjmcaaGreatDoorLaw
set_option linter.unusedVariables false
set_option linter.unusedSimpArgs false
set_option maxRecDepth 100000
namespace Go.R3.LD
open Go.Eng Go.R3
theorem case_0_5 (z0 z1 : Int) : t_f8 (lpF 3000) G0 (runS (FS (lpF 3000) G0) 3000) z0 z1 0 5 .e 0 isT = True := by kernel_rfl
theorem case_1_3 (z0 z1 : Int) : t_f8 (lpF 3000) G0 (runS (FS (lpF 3000) G0) 3000) z0 z1 1 3 .e 0 isT = True := by kernel_rfl
theorem case_2_1 (z0 z1 : Int) : t_f8 (lpF 3000) G0 (runS (FS (lpF 3000) G0) 3000) z0 z1 2 1 .e 0 isT = True := by kernel_rfl
theorem case_2_9 (z0 z1 : Int) : t_f8 (lpF 3000) G0 (runS (FS (lpF 3000) G0) 3000) z0 z1 2 9 .e 0 isT = True := by kernel_rfl
theorem case_3_7 (z0 z1 : Int) : t_f8 (lpF 3000) G0 (runS (FS (lpF 3000) G0) 3000) z0 z1 3 7 .e 0 isT = True := by kernel_rfl
theorem case_4_5 (z0 z1 : Int) : t_f8 (lpF 3000) G0 (runS (FS (lpF 3000) G0) 3000) z0 z1 4 5 .e 0 isT = True := by kernel_rfl
theorem case_5_3 (z0 z1 : Int) : t_f8 (lpF 3000) G0 (runS (FS (lpF 3000) G0) 3000) z0 z1 5 3 .e 0 isT = True := by kernel_rfl
theorem case_6_1 (z0 z1 : Int) : t_f8 (lpF 3000) G0 (runS (FS (lpF 3000) G0) 3000) z0 z1 6 1 .e 0 isT = True := by kernel_rfl
theorem case_6_9 (z0 z1 : Int) : t_f8 (lpF 3000) G0 (runS (FS (lpF 3000) G0) 3000) z0 z1 6 9 .e 0 isT = True := by kernel_rfl
theorem case_7_7 (z0 z1 : Int) : t_f8 (lpF 3000) G0 (runS (FS (lpF 3000) G0) 3000) z0 z1 7 7 .e 0 isT = True := by kernel_rfl
theorem case_8_5 (z0 z1 : Int) : t_f8 (lpF 3000) G0 (runS (FS (lpF 3000) G0) 3000) z0 z1 8 5 .e 0 isT = True := by kernel_rfl
theorem case_9_3 (z0 z1 : Int) : t_f8 (lpF 3000) G0 (runS (FS (lpF 3000) G0) 3000) z0 z1 9 3 .e 0 isT = True := by kernel_rfl
theorem case_10_1 (z0 z1 : Int) : t_f8 (lpF 3000) G0 (runS (FS (lpF 3000) G0) 3000) z0 z1 10 1 .e 0 isT = True := by kernel_rfl
theorem case_10_9 (z0 z1 : Int) : t_f8 (lpF 3000) G0 (runS (FS (lpF 3000) G0) 3000) z0 z1 10 9 .e 0 isT = True := by kernel_rfl
theorem case_11_7 (z0 z1 : Int) : t_f8 (lpF 3000) G0 (runS (FS (lpF 3000) G0) 3000) z0 z1 11 7 .e 0 isT = True := by kernel_rfl
theorem case_12_5 (z0 z1 : Int) : t_f8 (lpF 3000) G0 (runS (FS (lpF 3000) G0) 3000) z0 z1 12 5 .e 0 isT = True := by kernel_rfl
theorem case_13_3 (z0 z1 : Int) : t_f8 (lpF 3000) G0 (runS (FS (lpF 3000) G0) 3000) z0 z1 13 3 .e 0 isT = True := by kernel_rfl
theorem case_14_1 (z0 z1 : Int) : t_f8 (lpF 3000) G0 (runS (FS (lpF 3000) G0) 3000) z0 z1 14 1 .e 0 isT = True := by kernel_rfl
theorem case_14_9 (z0 z1 : Int) : t_f8 (lpF 3000) G0 (runS (FS (lpF 3000) G0) 3000) z0 z1 14 9 .e 0 isT = True := by kernel_rfl
theorem case_15_7 (z0 z1 : Int) : t_f8 (lpF 3000) G0 (runS (FS (lpF 3000) G0) 3000) z0 z1 15 7 .e 0 isT = True := by kernel_rfl
end Go.R3.LD

