/- Part of a proof: texts LD2 of the engine and what is proved with it; nothing is assumed. -/
import Derived.Test.YtgdefgnmabjmcaaGreatDoorLaw
set_option linter.unusedVariables false
set_option linter.unusedSimpArgs false
set_option maxRecDepth 100000
namespace Go.R3.LD
open Go.Eng Go.R3
theorem case_0_2 (z0 z1 : Int) : t_f8 (lpF 3000) G0 (runS (FS (lpF 3000) G0) 3000) z0 z1 0 2 .e 0 isT = True := by kernel_rfl
theorem case_1_0 (z0 z1 : Int) : t_f8 (lpF 3000) G0 (runS (FS (lpF 3000) G0) 3000) z0 z1 1 0 .e 0 isT = True := by kernel_rfl
theorem case_1_8 (z0 z1 : Int) : t_f8 (lpF 3000) G0 (runS (FS (lpF 3000) G0) 3000) z0 z1 1 8 .e 0 isT = True := by kernel_rfl
theorem case_2_6 (z0 z1 : Int) : t_f8 (lpF 3000) G0 (runS (FS (lpF 3000) G0) 3000) z0 z1 2 6 .e 0 isT = True := by kernel_rfl
theorem case_3_4 (z0 z1 : Int) : t_f8 (lpF 3000) G0 (runS (FS (lpF 3000) G0) 3000) z0 z1 3 4 .e 0 isT = True := by kernel_rfl
theorem case_4_2 (z0 z1 : Int) : t_f8 (lpF 3000) G0 (runS (FS (lpF 3000) G0) 3000) z0 z1 4 2 .e 0 isT = True := by kernel_rfl
theorem case_5_0 (z0 z1 : Int) : t_f8 (lpF 3000) G0 (runS (FS (lpF 3000) G0) 3000) z0 z1 5 0 .e 0 isT = True := by kernel_rfl
theorem case_5_8 (z0 z1 : Int) : t_f8 (lpF 3000) G0 (runS (FS (lpF 3000) G0) 3000) z0 z1 5 8 .e 0 isT = True := by kernel_rfl
theorem case_6_6 (z0 z1 : Int) : t_f8 (lpF 3000) G0 (runS (FS (lpF 3000) G0) 3000) z0 z1 6 6 .e 0 isT = True := by kernel_rfl
theorem case_7_4 (z0 z1 : Int) : t_f8 (lpF 3000) G0 (runS (FS (lpF 3000) G0) 3000) z0 z1 7 4 .e 0 isT = True := by kernel_rfl
theorem case_8_2 (z0 z1 : Int) : t_f8 (lpF 3000) G0 (runS (FS (lpF 3000) G0) 3000) z0 z1 8 2 .e 0 isT = True := by kernel_rfl
theorem case_9_0 (z0 z1 : Int) : t_f8 (lpF 3000) G0 (runS (FS (lpF 3000) G0) 3000) z0 z1 9 0 .e 0 isT = True := by kernel_rfl
theorem case_9_8 (z0 z1 : Int) : t_f8 (lpF 3000) G0 (runS (FS (lpF 3000) G0) 3000) z0 z1 9 8 .e 0 isT = True := by kernel_rfl
theorem case_10_6 (z0 z1 : Int) : t_f8 (lpF 3000) G0 (runS (FS (lpF 3000) G0) 3000) z0 z1 10 6 .e 0 isT = True := by kernel_rfl
theorem case_11_4 (z0 z1 : Int) : t_f8 (lpF 3000) G0 (runS (FS (lpF 3000) G0) 3000) z0 z1 11 4 .e 0 isT = True := by kernel_rfl
theorem case_12_2 (z0 z1 : Int) : t_f8 (lpF 3000) G0 (runS (FS (lpF 3000) G0) 3000) z0 z1 12 2 .e 0 isT = True := by kernel_rfl
theorem case_13_0 (z0 z1 : Int) : t_f8 (lpF 3000) G0 (runS (FS (lpF 3000) G0) 3000) z0 z1 13 0 .e 0 isT = True := by kernel_rfl
theorem case_13_8 (z0 z1 : Int) : t_f8 (lpF 3000) G0 (runS (FS (lpF 3000) G0) 3000) z0 z1 13 8 .e 0 isT = True := by kernel_rfl
theorem case_14_6 (z0 z1 : Int) : t_f8 (lpF 3000) G0 (runS (FS (lpF 3000) G0) 3000) z0 z1 14 6 .e 0 isT = True := by kernel_rfl
theorem case_15_4 (z0 z1 : Int) : t_f8 (lpF 3000) G0 (runS (FS (lpF 3000) G0) 3000) z0 z1 15 4 .e 0 isT = True := by kernel_rfl
end Go.R3.LD

