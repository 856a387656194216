/- Part of a proof: texts W2L0 of the engine and what is proved with it; nothing is assumed. -/
import Derived.Test.YtcjkfmaoahojeaaDoorLaw
set_option linter.unusedVariables false
set_option linter.unusedSimpArgs false
set_option maxRecDepth 100000
namespace Go.P2.W2L
open Go.Eng Go.P2
theorem case_0_0 (z0 z1 : Int) : t_kilnlaw06_ParseErrors (lpF 400) G0 (runS (FS (lpF 400) G0) 400) z0 z1 0 0 .e 0 isT = True := by kernel_rfl
theorem case_0_6 (z0 z1 : Int) : t_kilnlaw06_ParseErrors (lpF 400) G0 (runS (FS (lpF 400) G0) 400) z0 z1 0 6 .e 0 isT = True := by kernel_rfl
theorem case_0_12 (z0 z1 : Int) : t_kilnlaw06_ParseErrors (lpF 400) G0 (runS (FS (lpF 400) G0) 400) z0 z1 0 12 .e 0 isT = True := by kernel_rfl
theorem case_1_2 (z0 z1 : Int) : t_kilnlaw06_ParseErrors (lpF 400) G0 (runS (FS (lpF 400) G0) 400) z0 z1 1 2 .e 0 isT = True := by kernel_rfl
theorem case_1_8 (z0 z1 : Int) : t_kilnlaw06_ParseErrors (lpF 400) G0 (runS (FS (lpF 400) G0) 400) z0 z1 1 8 .e 0 isT = True := by kernel_rfl
theorem case_1_14 (z0 z1 : Int) : t_kilnlaw06_ParseErrors (lpF 400) G0 (runS (FS (lpF 400) G0) 400) z0 z1 1 14 .e 0 isT = True := by kernel_rfl
theorem case_2_4 (z0 z1 : Int) : t_kilnlaw06_ParseErrors (lpF 400) G0 (runS (FS (lpF 400) G0) 400) z0 z1 2 4 .e 0 isT = True := by kernel_rfl
theorem case_2_10 (z0 z1 : Int) : t_kilnlaw06_ParseErrors (lpF 400) G0 (runS (FS (lpF 400) G0) 400) z0 z1 2 10 .e 0 isT = True := by kernel_rfl
theorem case_3_0 (z0 z1 : Int) : t_kilnlaw06_ParseErrors (lpF 400) G0 (runS (FS (lpF 400) G0) 400) z0 z1 3 0 .e 0 isT = True := by kernel_rfl
theorem case_3_6 (z0 z1 : Int) : t_kilnlaw06_ParseErrors (lpF 400) G0 (runS (FS (lpF 400) G0) 400) z0 z1 3 6 .e 0 isT = True := by kernel_rfl
theorem case_3_12 (z0 z1 : Int) : t_kilnlaw06_ParseErrors (lpF 400) G0 (runS (FS (lpF 400) G0) 400) z0 z1 3 12 .e 0 isT = True := by kernel_rfl
theorem case_4_2 (z0 z1 : Int) : t_kilnlaw06_ParseErrors (lpF 400) G0 (runS (FS (lpF 400) G0) 400) z0 z1 4 2 .e 0 isT = True := by kernel_rfl
theorem case_4_8 (z0 z1 : Int) : t_kilnlaw06_ParseErrors (lpF 400) G0 (runS (FS (lpF 400) G0) 400) z0 z1 4 8 .e 0 isT = True := by kernel_rfl
theorem case_4_14 (z0 z1 : Int) : t_kilnlaw06_ParseErrors (lpF 400) G0 (runS (FS (lpF 400) G0) 400) z0 z1 4 14 .e 0 isT = True := by kernel_rfl
theorem case_5_4 (z0 z1 : Int) : t_kilnlaw06_ParseErrors (lpF 400) G0 (runS (FS (lpF 400) G0) 400) z0 z1 5 4 .e 0 isT = True := by kernel_rfl
theorem case_5_10 (z0 z1 : Int) : t_kilnlaw06_ParseErrors (lpF 400) G0 (runS (FS (lpF 400) G0) 400) z0 z1 5 10 .e 0 isT = True := by kernel_rfl
theorem case_6_0 (z0 z1 : Int) : t_kilnlaw06_ParseErrors (lpF 400) G0 (runS (FS (lpF 400) G0) 400) z0 z1 6 0 .e 0 isT = True := by kernel_rfl
theorem case_6_6 (z0 z1 : Int) : t_kilnlaw06_ParseErrors (lpF 400) G0 (runS (FS (lpF 400) G0) 400) z0 z1 6 6 .e 0 isT = True := by kernel_rfl
theorem case_6_12 (z0 z1 : Int) : t_kilnlaw06_ParseErrors (lpF 400) G0 (runS (FS (lpF 400) G0) 400) z0 z1 6 12 .e 0 isT = True := by kernel_rfl
theorem case_7_2 (z0 z1 : Int) : t_kilnlaw06_ParseErrors (lpF 400) G0 (runS (FS (lpF 400) G0) 400) z0 z1 7 2 .e 0 isT = True := by kernel_rfl
theorem case_7_8 (z0 z1 : Int) : t_kilnlaw06_ParseErrors (lpF 400) G0 (runS (FS (lpF 400) G0) 400) z0 z1 7 8 .e 0 isT = True := by kernel_rfl
theorem case_7_14 (z0 z1 : Int) : t_kilnlaw06_ParseErrors (lpF 400) G0 (runS (FS (lpF 400) G0) 400) z0 z1 7 14 .e 0 isT = True := by kernel_rfl
theorem case_8_4 (z0 z1 : Int) : t_kilnlaw06_ParseErrors (lpF 400) G0 (runS (FS (lpF 400) G0) 400) z0 z1 8 4 .e 0 isT = True := by kernel_rfl
theorem case_8_10 (z0 z1 : Int) : t_kilnlaw06_ParseErrors (lpF 400) G0 (runS (FS (lpF 400) G0) 400) z0 z1 8 10 .e 0 isT = True := by kernel_rfl
theorem case_9_0 (z0 z1 : Int) : t_kilnlaw06_ParseErrors (lpF 400) G0 (runS (FS (lpF 400) G0) 400) z0 z1 9 0 .e 0 isT = True := by kernel_rfl
theorem case_9_6 (z0 z1 : Int) : t_kilnlaw06_ParseErrors (lpF 400) G0 (runS (FS (lpF 400) G0) 400) z0 z1 9 6 .e 0 isT = True := by kernel_rfl
theorem case_9_12 (z0 z1 : Int) : t_kilnlaw06_ParseErrors (lpF 400) G0 (runS (FS (lpF 400) G0) 400) z0 z1 9 12 .e 0 isT = True := by kernel_rfl
theorem case_10_2 (z0 z1 : Int) : t_kilnlaw06_ParseErrors (lpF 400) G0 (runS (FS (lpF 400) G0) 400) z0 z1 10 2 .e 0 isT = True := by kernel_rfl
theorem case_10_8 (z0 z1 : Int) : t_kilnlaw06_ParseErrors (lpF 400) G0 (runS (FS (lpF 400) G0) 400) z0 z1 10 8 .e 0 isT = True := by kernel_rfl
theorem case_10_14 (z0 z1 : Int) : t_kilnlaw06_ParseErrors (lpF 400) G0 (runS (FS (lpF 400) G0) 400) z0 z1 10 14 .e 0 isT = True := by kernel_rfl
theorem case_11_4 (z0 z1 : Int) : t_kilnlaw06_ParseErrors (lpF 400) G0 (runS (FS (lpF 400) G0) 400) z0 z1 11 4 .e 0 isT = True := by kernel_rfl
theorem case_11_10 (z0 z1 : Int) : t_kilnlaw06_ParseErrors (lpF 400) G0 (runS (FS (lpF 400) G0) 400) z0 z1 11 10 .e 0 isT = True := by kernel_rfl
theorem case_12_0 (z0 z1 : Int) : t_kilnlaw06_ParseErrors (lpF 400) G0 (runS (FS (lpF 400) G0) 400) z0 z1 12 0 .e 0 isT = True := by kernel_rfl
theorem case_12_6 (z0 z1 : Int) : t_kilnlaw06_ParseErrors (lpF 400) G0 (runS (FS (lpF 400) G0) 400) z0 z1 12 6 .e 0 isT = True := by kernel_rfl
theorem case_12_12 (z0 z1 : Int) : t_kilnlaw06_ParseErrors (lpF 400) G0 (runS (FS (lpF 400) G0) 400) z0 z1 12 12 .e 0 isT = True := by kernel_rfl
theorem case_13_2 (z0 z1 : Int) : t_kilnlaw06_ParseErrors (lpF 400) G0 (runS (FS (lpF 400) G0) 400) z0 z1 13 2 .e 0 isT = True := by kernel_rfl
theorem case_13_8 (z0 z1 : Int) : t_kilnlaw06_ParseErrors (lpF 400) G0 (runS (FS (lpF 400) G0) 400) z0 z1 13 8 .e 0 isT = True := by kernel_rfl
theorem case_13_14 (z0 z1 : Int) : t_kilnlaw06_ParseErrors (lpF 400) G0 (runS (FS (lpF 400) G0) 400) z0 z1 13 14 .e 0 isT = True := by kernel_rfl
theorem case_14_4 (z0 z1 : Int) : t_kilnlaw06_ParseErrors (lpF 400) G0 (runS (FS (lpF 400) G0) 400) z0 z1 14 4 .e 0 isT = True := by kernel_rfl
theorem case_14_10 (z0 z1 : Int) : t_kilnlaw06_ParseErrors (lpF 400) G0 (runS (FS (lpF 400) G0) 400) z0 z1 14 10 .e 0 isT = True := by kernel_rfl
theorem case_15_0 (z0 z1 : Int) : t_kilnlaw06_ParseErrors (lpF 400) G0 (runS (FS (lpF 400) G0) 400) z0 z1 15 0 .e 0 isT = True := by kernel_rfl
theorem case_15_6 (z0 z1 : Int) : t_kilnlaw06_ParseErrors (lpF 400) G0 (runS (FS (lpF 400) G0) 400) z0 z1 15 6 .e 0 isT = True := by kernel_rfl
theorem case_15_12 (z0 z1 : Int) : t_kilnlaw06_ParseErrors (lpF 400) G0 (runS (FS (lpF 400) G0) 400) z0 z1 15 12 .e 0 isT = True := by kernel_rfl
theorem case_16_2 (z0 z1 : Int) : t_kilnlaw06_ParseErrors (lpF 400) G0 (runS (FS (lpF 400) G0) 400) z0 z1 16 2 .e 0 isT = True := by kernel_rfl
theorem case_16_8 (z0 z1 : Int) : t_kilnlaw06_ParseErrors (lpF 400) G0 (runS (FS (lpF 400) G0) 400) z0 z1 16 8 .e 0 isT = True := by kernel_rfl
theorem case_16_14 (z0 z1 : Int) : t_kilnlaw06_ParseErrors (lpF 400) G0 (runS (FS (lpF 400) G0) 400) z0 z1 16 14 .e 0 isT = True := by kernel_rfl
theorem case_17_4 (z0 z1 : Int) : t_kilnlaw06_ParseErrors (lpF 400) G0 (runS (FS (lpF 400) G0) 400) z0 z1 17 4 .e 0 isT = True := by kernel_rfl
theorem case_17_10 (z0 z1 : Int) : t_kilnlaw06_ParseErrors (lpF 400) G0 (runS (FS (lpF 400) G0) 400) z0 z1 17 10 .e 0 isT = True := by kernel_rfl
theorem case_18_0 (z0 z1 : Int) : t_kilnlaw06_ParseErrors (lpF 400) G0 (runS (FS (lpF 400) G0) 400) z0 z1 18 0 .e 0 isT = True := by kernel_rfl
theorem case_18_6 (z0 z1 : Int) : t_kilnlaw06_ParseErrors (lpF 400) G0 (runS (FS (lpF 400) G0) 400) z0 z1 18 6 .e 0 isT = True := by kernel_rfl
theorem case_18_12 (z0 z1 : Int) : t_kilnlaw06_ParseErrors (lpF 400) G0 (runS (FS (lpF 400) G0) 400) z0 z1 18 12 .e 0 isT = True := by kernel_rfl
theorem case_19_2 (z0 z1 : Int) : t_kilnlaw06_ParseErrors (lpF 400) G0 (runS (FS (lpF 400) G0) 400) z0 z1 19 2 .e 0 isT = True := by kernel_rfl
theorem case_19_8 (z0 z1 : Int) : t_kilnlaw06_ParseErrors (lpF 400) G0 (runS (FS (lpF 400) G0) 400) z0 z1 19 8 .e 0 isT = True := by kernel_rfl
theorem case_19_14 (z0 z1 : Int) : t_kilnlaw06_ParseErrors (lpF 400) G0 (runS (FS (lpF 400) G0) 400) z0 z1 19 14 .e 0 isT = True := by kernel_rfl
end Go.P2.W2L

