/- Part of a proof: texts LD4 of the engine and what is proved with it; nothing is assumed. -/
import Derived.Test.YtgdefgnmabjmcaaGreatDoorLaw
set_option linter.unusedVariables false
set_option linter.unusedSimpArgs false
set_option maxRecDepth 100000
namespace Go.R3.LD
open Go.Eng Go.R3
theorem case_0_4 (z0 z1 : Int) : t_f8 (lpF 3000) G0 (runS (FS (lpF 3000) G0) 3000) z0 z1 0 4 .e 0 isT = True := by kernel_rfl
theorem case_1_2 (z0 z1 : Int) : t_f8 (lpF 3000) G0 (runS (FS (lpF 3000) G0) 3000) z0 z1 1 2 .e 0 isT = True := by kernel_rfl
theorem case_2_0 (z0 z1 : Int) : t_f8 (lpF 3000) G0 (runS (FS (lpF 3000) G0) 3000) z0 z1 2 0 .e 0 isT = True := by kernel_rfl
theorem case_2_8 (z0 z1 : Int) : t_f8 (lpF 3000) G0 (runS (FS (lpF 3000) G0) 3000) z0 z1 2 8 .e 0 isT = True := by kernel_rfl
theorem case_3_6 (z0 z1 : Int) : t_f8 (lpF 3000) G0 (runS (FS (lpF 3000) G0) 3000) z0 z1 3 6 .e 0 isT = True := by kernel_rfl
theorem case_4_4 (z0 z1 : Int) : t_f8 (lpF 3000) G0 (runS (FS (lpF 3000) G0) 3000) z0 z1 4 4 .e 0 isT = True := by kernel_rfl
theorem case_5_2 (z0 z1 : Int) : t_f8 (lpF 3000) G0 (runS (FS (lpF 3000) G0) 3000) z0 z1 5 2 .e 0 isT = True := by kernel_rfl
theorem case_6_0 (z0 z1 : Int) : t_f8 (lpF 3000) G0 (runS (FS (lpF 3000) G0) 3000) z0 z1 6 0 .e 0 isT = True := by kernel_rfl
theorem case_6_8 (z0 z1 : Int) : t_f8 (lpF 3000) G0 (runS (FS (lpF 3000) G0) 3000) z0 z1 6 8 .e 0 isT = True := by kernel_rfl
theorem case_7_6 (z0 z1 : Int) : t_f8 (lpF 3000) G0 (runS (FS (lpF 3000) G0) 3000) z0 z1 7 6 .e 0 isT = True := by kernel_rfl
theorem case_8_4 (z0 z1 : Int) : t_f8 (lpF 3000) G0 (runS (FS (lpF 3000) G0) 3000) z0 z1 8 4 .e 0 isT = True := by kernel_rfl
theorem case_9_2 (z0 z1 : Int) : t_f8 (lpF 3000) G0 (runS (FS (lpF 3000) G0) 3000) z0 z1 9 2 .e 0 isT = True := by kernel_rfl
theorem case_10_0 (z0 z1 : Int) : t_f8 (lpF 3000) G0 (runS (FS (lpF 3000) G0) 3000) z0 z1 10 0 .e 0 isT = True := by kernel_rfl
theorem case_10_8 (z0 z1 : Int) : t_f8 (lpF 3000) G0 (runS (FS (lpF 3000) G0) 3000) z0 z1 10 8 .e 0 isT = True := by kernel_rfl
theorem case_11_6 (z0 z1 : Int) : t_f8 (lpF 3000) G0 (runS (FS (lpF 3000) G0) 3000) z0 z1 11 6 .e 0 isT = True := by kernel_rfl
theorem case_12_4 (z0 z1 : Int) : t_f8 (lpF 3000) G0 (runS (FS (lpF 3000) G0) 3000) z0 z1 12 4 .e 0 isT = True := by kernel_rfl
theorem case_13_2 (z0 z1 : Int) : t_f8 (lpF 3000) G0 (runS (FS (lpF 3000) G0) 3000) z0 z1 13 2 .e 0 isT = True := by kernel_rfl
theorem case_14_0 (z0 z1 : Int) : t_f8 (lpF 3000) G0 (runS (FS (lpF 3000) G0) 3000) z0 z1 14 0 .e 0 isT = True := by kernel_rfl
theorem case_14_8 (z0 z1 : Int) : t_f8 (lpF 3000) G0 (runS (FS (lpF 3000) G0) 3000) z0 z1 14 8 .e 0 isT = True := by kernel_rfl
theorem case_15_6 (z0 z1 : Int) : t_f8 (lpF 3000) G0 (runS (FS (lpF 3000) G0) 3000) z0 z1 15 6 .e 0 isT = True := by kernel_rfl
end Go.R3.LD

