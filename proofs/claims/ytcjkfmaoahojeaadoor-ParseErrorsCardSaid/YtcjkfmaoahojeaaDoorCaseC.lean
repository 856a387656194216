/- Part of a proof: texts W2L2 of the engine and what is proved with it; nothing is assumed. -/
import Derived.Test.YtcjkfmaoahojeaaDoorLaw
set_option linter.unusedVariables false
set_option linter.unusedSimpArgs false
set_option maxRecDepth 100000
namespace Go.P2.W2L
open Go.Eng Go.P2
theorem case_0_2 (z0 z1 : Int) : t_kilnlaw06_ParseErrors (lpF 400) G0 (runS (FS (lpF 400) G0) 400) z0 z1 0 2 .e 0 isT = True := by kernel_rfl
theorem case_0_8 (z0 z1 : Int) : t_kilnlaw06_ParseErrors (lpF 400) G0 (runS (FS (lpF 400) G0) 400) z0 z1 0 8 .e 0 isT = True := by kernel_rfl
theorem case_0_14 (z0 z1 : Int) : t_kilnlaw06_ParseErrors (lpF 400) G0 (runS (FS (lpF 400) G0) 400) z0 z1 0 14 .e 0 isT = True := by kernel_rfl
theorem case_1_4 (z0 z1 : Int) : t_kilnlaw06_ParseErrors (lpF 400) G0 (runS (FS (lpF 400) G0) 400) z0 z1 1 4 .e 0 isT = True := by kernel_rfl
theorem case_1_10 (z0 z1 : Int) : t_kilnlaw06_ParseErrors (lpF 400) G0 (runS (FS (lpF 400) G0) 400) z0 z1 1 10 .e 0 isT = True := by kernel_rfl
theorem case_2_0 (z0 z1 : Int) : t_kilnlaw06_ParseErrors (lpF 400) G0 (runS (FS (lpF 400) G0) 400) z0 z1 2 0 .e 0 isT = True := by kernel_rfl
theorem case_2_6 (z0 z1 : Int) : t_kilnlaw06_ParseErrors (lpF 400) G0 (runS (FS (lpF 400) G0) 400) z0 z1 2 6 .e 0 isT = True := by kernel_rfl
theorem case_2_12 (z0 z1 : Int) : t_kilnlaw06_ParseErrors (lpF 400) G0 (runS (FS (lpF 400) G0) 400) z0 z1 2 12 .e 0 isT = True := by kernel_rfl
theorem case_3_2 (z0 z1 : Int) : t_kilnlaw06_ParseErrors (lpF 400) G0 (runS (FS (lpF 400) G0) 400) z0 z1 3 2 .e 0 isT = True := by kernel_rfl
theorem case_3_8 (z0 z1 : Int) : t_kilnlaw06_ParseErrors (lpF 400) G0 (runS (FS (lpF 400) G0) 400) z0 z1 3 8 .e 0 isT = True := by kernel_rfl
theorem case_3_14 (z0 z1 : Int) : t_kilnlaw06_ParseErrors (lpF 400) G0 (runS (FS (lpF 400) G0) 400) z0 z1 3 14 .e 0 isT = True := by kernel_rfl
theorem case_4_4 (z0 z1 : Int) : t_kilnlaw06_ParseErrors (lpF 400) G0 (runS (FS (lpF 400) G0) 400) z0 z1 4 4 .e 0 isT = True := by kernel_rfl
theorem case_4_10 (z0 z1 : Int) : t_kilnlaw06_ParseErrors (lpF 400) G0 (runS (FS (lpF 400) G0) 400) z0 z1 4 10 .e 0 isT = True := by kernel_rfl
theorem case_5_0 (z0 z1 : Int) : t_kilnlaw06_ParseErrors (lpF 400) G0 (runS (FS (lpF 400) G0) 400) z0 z1 5 0 .e 0 isT = True := by kernel_rfl
theorem case_5_6 (z0 z1 : Int) : t_kilnlaw06_ParseErrors (lpF 400) G0 (runS (FS (lpF 400) G0) 400) z0 z1 5 6 .e 0 isT = True := by kernel_rfl
theorem case_5_12 (z0 z1 : Int) : t_kilnlaw06_ParseErrors (lpF 400) G0 (runS (FS (lpF 400) G0) 400) z0 z1 5 12 .e 0 isT = True := by kernel_rfl
theorem case_6_2 (z0 z1 : Int) : t_kilnlaw06_ParseErrors (lpF 400) G0 (runS (FS (lpF 400) G0) 400) z0 z1 6 2 .e 0 isT = True := by kernel_rfl
theorem case_6_8 (z0 z1 : Int) : t_kilnlaw06_ParseErrors (lpF 400) G0 (runS (FS (lpF 400) G0) 400) z0 z1 6 8 .e 0 isT = True := by kernel_rfl
theorem case_6_14 (z0 z1 : Int) : t_kilnlaw06_ParseErrors (lpF 400) G0 (runS (FS (lpF 400) G0) 400) z0 z1 6 14 .e 0 isT = True := by kernel_rfl
theorem case_7_4 (z0 z1 : Int) : t_kilnlaw06_ParseErrors (lpF 400) G0 (runS (FS (lpF 400) G0) 400) z0 z1 7 4 .e 0 isT = True := by kernel_rfl
theorem case_7_10 (z0 z1 : Int) : t_kilnlaw06_ParseErrors (lpF 400) G0 (runS (FS (lpF 400) G0) 400) z0 z1 7 10 .e 0 isT = True := by kernel_rfl
theorem case_8_0 (z0 z1 : Int) : t_kilnlaw06_ParseErrors (lpF 400) G0 (runS (FS (lpF 400) G0) 400) z0 z1 8 0 .e 0 isT = True := by kernel_rfl
theorem case_8_6 (z0 z1 : Int) : t_kilnlaw06_ParseErrors (lpF 400) G0 (runS (FS (lpF 400) G0) 400) z0 z1 8 6 .e 0 isT = True := by kernel_rfl
theorem case_8_12 (z0 z1 : Int) : t_kilnlaw06_ParseErrors (lpF 400) G0 (runS (FS (lpF 400) G0) 400) z0 z1 8 12 .e 0 isT = True := by kernel_rfl
theorem case_9_2 (z0 z1 : Int) : t_kilnlaw06_ParseErrors (lpF 400) G0 (runS (FS (lpF 400) G0) 400) z0 z1 9 2 .e 0 isT = True := by kernel_rfl
theorem case_9_8 (z0 z1 : Int) : t_kilnlaw06_ParseErrors (lpF 400) G0 (runS (FS (lpF 400) G0) 400) z0 z1 9 8 .e 0 isT = True := by kernel_rfl
theorem case_9_14 (z0 z1 : Int) : t_kilnlaw06_ParseErrors (lpF 400) G0 (runS (FS (lpF 400) G0) 400) z0 z1 9 14 .e 0 isT = True := by kernel_rfl
theorem case_10_4 (z0 z1 : Int) : t_kilnlaw06_ParseErrors (lpF 400) G0 (runS (FS (lpF 400) G0) 400) z0 z1 10 4 .e 0 isT = True := by kernel_rfl
theorem case_10_10 (z0 z1 : Int) : t_kilnlaw06_ParseErrors (lpF 400) G0 (runS (FS (lpF 400) G0) 400) z0 z1 10 10 .e 0 isT = True := by kernel_rfl
theorem case_11_0 (z0 z1 : Int) : t_kilnlaw06_ParseErrors (lpF 400) G0 (runS (FS (lpF 400) G0) 400) z0 z1 11 0 .e 0 isT = True := by kernel_rfl
theorem case_11_6 (z0 z1 : Int) : t_kilnlaw06_ParseErrors (lpF 400) G0 (runS (FS (lpF 400) G0) 400) z0 z1 11 6 .e 0 isT = True := by kernel_rfl
theorem case_11_12 (z0 z1 : Int) : t_kilnlaw06_ParseErrors (lpF 400) G0 (runS (FS (lpF 400) G0) 400) z0 z1 11 12 .e 0 isT = True := by kernel_rfl
theorem case_12_2 (z0 z1 : Int) : t_kilnlaw06_ParseErrors (lpF 400) G0 (runS (FS (lpF 400) G0) 400) z0 z1 12 2 .e 0 isT = True := by kernel_rfl
theorem case_12_8 (z0 z1 : Int) : t_kilnlaw06_ParseErrors (lpF 400) G0 (runS (FS (lpF 400) G0) 400) z0 z1 12 8 .e 0 isT = True := by kernel_rfl
theorem case_12_14 (z0 z1 : Int) : t_kilnlaw06_ParseErrors (lpF 400) G0 (runS (FS (lpF 400) G0) 400) z0 z1 12 14 .e 0 isT = True := by kernel_rfl
theorem case_13_4 (z0 z1 : Int) : t_kilnlaw06_ParseErrors (lpF 400) G0 (runS (FS (lpF 400) G0) 400) z0 z1 13 4 .e 0 isT = True := by kernel_rfl
theorem case_13_10 (z0 z1 : Int) : t_kilnlaw06_ParseErrors (lpF 400) G0 (runS (FS (lpF 400) G0) 400) z0 z1 13 10 .e 0 isT = True := by kernel_rfl
theorem case_14_0 (z0 z1 : Int) : t_kilnlaw06_ParseErrors (lpF 400) G0 (runS (FS (lpF 400) G0) 400) z0 z1 14 0 .e 0 isT = True := by kernel_rfl
theorem case_14_6 (z0 z1 : Int) : t_kilnlaw06_ParseErrors (lpF 400) G0 (runS (FS (lpF 400) G0) 400) z0 z1 14 6 .e 0 isT = True := by kernel_rfl
theorem case_14_12 (z0 z1 : Int) : t_kilnlaw06_ParseErrors (lpF 400) G0 (runS (FS (lpF 400) G0) 400) z0 z1 14 12 .e 0 isT = True := by kernel_rfl
theorem case_15_2 (z0 z1 : Int) : t_kilnlaw06_ParseErrors (lpF 400) G0 (runS (FS (lpF 400) G0) 400) z0 z1 15 2 .e 0 isT = True := by kernel_rfl
theorem case_15_8 (z0 z1 : Int) : t_kilnlaw06_ParseErrors (lpF 400) G0 (runS (FS (lpF 400) G0) 400) z0 z1 15 8 .e 0 isT = True := by kernel_rfl
theorem case_15_14 (z0 z1 : Int) : t_kilnlaw06_ParseErrors (lpF 400) G0 (runS (FS (lpF 400) G0) 400) z0 z1 15 14 .e 0 isT = True := by kernel_rfl
theorem case_16_4 (z0 z1 : Int) : t_kilnlaw06_ParseErrors (lpF 400) G0 (runS (FS (lpF 400) G0) 400) z0 z1 16 4 .e 0 isT = True := by kernel_rfl
theorem case_16_10 (z0 z1 : Int) : t_kilnlaw06_ParseErrors (lpF 400) G0 (runS (FS (lpF 400) G0) 400) z0 z1 16 10 .e 0 isT = True := by kernel_rfl
theorem case_17_0 (z0 z1 : Int) : t_kilnlaw06_ParseErrors (lpF 400) G0 (runS (FS (lpF 400) G0) 400) z0 z1 17 0 .e 0 isT = True := by kernel_rfl
theorem case_17_6 (z0 z1 : Int) : t_kilnlaw06_ParseErrors (lpF 400) G0 (runS (FS (lpF 400) G0) 400) z0 z1 17 6 .e 0 isT = True := by kernel_rfl
theorem case_17_12 (z0 z1 : Int) : t_kilnlaw06_ParseErrors (lpF 400) G0 (runS (FS (lpF 400) G0) 400) z0 z1 17 12 .e 0 isT = True := by kernel_rfl
theorem case_18_2 (z0 z1 : Int) : t_kilnlaw06_ParseErrors (lpF 400) G0 (runS (FS (lpF 400) G0) 400) z0 z1 18 2 .e 0 isT = True := by kernel_rfl
theorem case_18_8 (z0 z1 : Int) : t_kilnlaw06_ParseErrors (lpF 400) G0 (runS (FS (lpF 400) G0) 400) z0 z1 18 8 .e 0 isT = True := by kernel_rfl
theorem case_18_14 (z0 z1 : Int) : t_kilnlaw06_ParseErrors (lpF 400) G0 (runS (FS (lpF 400) G0) 400) z0 z1 18 14 .e 0 isT = True := by kernel_rfl
theorem case_19_4 (z0 z1 : Int) : t_kilnlaw06_ParseErrors (lpF 400) G0 (runS (FS (lpF 400) G0) 400) z0 z1 19 4 .e 0 isT = True := by kernel_rfl
theorem case_19_10 (z0 z1 : Int) : t_kilnlaw06_ParseErrors (lpF 400) G0 (runS (FS (lpF 400) G0) 400) z0 z1 19 10 .e 0 isT = True := by kernel_rfl
end Go.P2.W2L

