/- Part of a proof: texts LD0 of the engine and what is proved with it; nothing is assumed. -/
import Derived.Test.YtgdefgnmabjmcaaGreatDoorLaw
set_option linter.unusedVariables false
set_option linter.unusedSimpArgs false
set_option maxRecDepth 100000
namespace Go.R3.LD
open Go.Eng Go.R3
theorem case_0_0 (z0 z1 : Int) : t_f8 (lpF 3000) G0 (runS (FS (lpF 3000) G0) 3000) z0 z1 0 0 .e 0 isT = True := by kernel_rfl
theorem case_0_8 (z0 z1 : Int) : t_f8 (lpF 3000) G0 (runS (FS (lpF 3000) G0) 3000) z0 z1 0 8 .e 0 isT = True := by kernel_rfl
theorem case_1_6 (z0 z1 : Int) : t_f8 (lpF 3000) G0 (runS (FS (lpF 3000) G0) 3000) z0 z1 1 6 .e 0 isT = True := by kernel_rfl
theorem case_2_4 (z0 z1 : Int) : t_f8 (lpF 3000) G0 (runS (FS (lpF 3000) G0) 3000) z0 z1 2 4 .e 0 isT = True := by kernel_rfl
theorem case_3_2 (z0 z1 : Int) : t_f8 (lpF 3000) G0 (runS (FS (lpF 3000) G0) 3000) z0 z1 3 2 .e 0 isT = True := by kernel_rfl
theorem case_4_0 (z0 z1 : Int) : t_f8 (lpF 3000) G0 (runS (FS (lpF 3000) G0) 3000) z0 z1 4 0 .e 0 isT = True := by kernel_rfl
theorem case_4_8 (z0 z1 : Int) : t_f8 (lpF 3000) G0 (runS (FS (lpF 3000) G0) 3000) z0 z1 4 8 .e 0 isT = True := by kernel_rfl
theorem case_5_6 (z0 z1 : Int) : t_f8 (lpF 3000) G0 (runS (FS (lpF 3000) G0) 3000) z0 z1 5 6 .e 0 isT = True := by kernel_rfl
theorem case_6_4 (z0 z1 : Int) : t_f8 (lpF 3000) G0 (runS (FS (lpF 3000) G0) 3000) z0 z1 6 4 .e 0 isT = True := by kernel_rfl
theorem case_7_2 (z0 z1 : Int) : t_f8 (lpF 3000) G0 (runS (FS (lpF 3000) G0) 3000) z0 z1 7 2 .e 0 isT = True := by kernel_rfl
theorem case_8_0 (z0 z1 : Int) : t_f8 (lpF 3000) G0 (runS (FS (lpF 3000) G0) 3000) z0 z1 8 0 .e 0 isT = True := by kernel_rfl
theorem case_8_8 (z0 z1 : Int) : t_f8 (lpF 3000) G0 (runS (FS (lpF 3000) G0) 3000) z0 z1 8 8 .e 0 isT = True := by kernel_rfl
theorem case_9_6 (z0 z1 : Int) : t_f8 (lpF 3000) G0 (runS (FS (lpF 3000) G0) 3000) z0 z1 9 6 .e 0 isT = True := by kernel_rfl
theorem case_10_4 (z0 z1 : Int) : t_f8 (lpF 3000) G0 (runS (FS (lpF 3000) G0) 3000) z0 z1 10 4 .e 0 isT = True := by kernel_rfl
theorem case_11_2 (z0 z1 : Int) : t_f8 (lpF 3000) G0 (runS (FS (lpF 3000) G0) 3000) z0 z1 11 2 .e 0 isT = True := by kernel_rfl
theorem case_12_0 (z0 z1 : Int) : t_f8 (lpF 3000) G0 (runS (FS (lpF 3000) G0) 3000) z0 z1 12 0 .e 0 isT = True := by kernel_rfl
theorem case_12_8 (z0 z1 : Int) : t_f8 (lpF 3000) G0 (runS (FS (lpF 3000) G0) 3000) z0 z1 12 8 .e 0 isT = True := by kernel_rfl
theorem case_13_6 (z0 z1 : Int) : t_f8 (lpF 3000) G0 (runS (FS (lpF 3000) G0) 3000) z0 z1 13 6 .e 0 isT = True := by kernel_rfl
theorem case_14_4 (z0 z1 : Int) : t_f8 (lpF 3000) G0 (runS (FS (lpF 3000) G0) 3000) z0 z1 14 4 .e 0 isT = True := by kernel_rfl
theorem case_15_2 (z0 z1 : Int) : t_f8 (lpF 3000) G0 (runS (FS (lpF 3000) G0) 3000) z0 z1 15 2 .e 0 isT = True := by kernel_rfl
end Go.R3.LD

