/- Part of a proof: texts W2L3 of the engine and what is proved with it; nothing is assumed. -/
import Derived.Test.YtcjkfmaoahojeaaDoorLaw
set_option linter.unusedVariables false
set_option linter.unusedSimpArgs false
set_option maxRecDepth 100000
namespace Go.P2.W2L
open Go.Eng Go.P2
theorem case_0_3 (z0 z1 : Int) : t_kilnlaw06_ParseErrors (lpF 400) G0 (runS (FS (lpF 400) G0) 400) z0 z1 0 3 .e 0 isT = True := by kernel_rfl
theorem case_0_9 (z0 z1 : Int) : t_kilnlaw06_ParseErrors (lpF 400) G0 (runS (FS (lpF 400) G0) 400) z0 z1 0 9 .e 0 isT = True := by kernel_rfl
theorem case_0_15 (z0 z1 : Int) : t_kilnlaw06_ParseErrors (lpF 400) G0 (runS (FS (lpF 400) G0) 400) z0 z1 0 15 .e 0 isT = True := by kernel_rfl
theorem case_1_5 (z0 z1 : Int) : t_kilnlaw06_ParseErrors (lpF 400) G0 (runS (FS (lpF 400) G0) 400) z0 z1 1 5 .e 0 isT = True := by kernel_rfl
theorem case_1_11 (z0 z1 : Int) : t_kilnlaw06_ParseErrors (lpF 400) G0 (runS (FS (lpF 400) G0) 400) z0 z1 1 11 .e 0 isT = True := by kernel_rfl
theorem case_2_1 (z0 z1 : Int) : t_kilnlaw06_ParseErrors (lpF 400) G0 (runS (FS (lpF 400) G0) 400) z0 z1 2 1 .e 0 isT = True := by kernel_rfl
theorem case_2_7 (z0 z1 : Int) : t_kilnlaw06_ParseErrors (lpF 400) G0 (runS (FS (lpF 400) G0) 400) z0 z1 2 7 .e 0 isT = True := by kernel_rfl
theorem case_2_13 (z0 z1 : Int) : t_kilnlaw06_ParseErrors (lpF 400) G0 (runS (FS (lpF 400) G0) 400) z0 z1 2 13 .e 0 isT = True := by kernel_rfl
theorem case_3_3 (z0 z1 : Int) : t_kilnlaw06_ParseErrors (lpF 400) G0 (runS (FS (lpF 400) G0) 400) z0 z1 3 3 .e 0 isT = True := by kernel_rfl
theorem case_3_9 (z0 z1 : Int) : t_kilnlaw06_ParseErrors (lpF 400) G0 (runS (FS (lpF 400) G0) 400) z0 z1 3 9 .e 0 isT = True := by kernel_rfl
theorem case_3_15 (z0 z1 : Int) : t_kilnlaw06_ParseErrors (lpF 400) G0 (runS (FS (lpF 400) G0) 400) z0 z1 3 15 .e 0 isT = True := by kernel_rfl
theorem case_4_5 (z0 z1 : Int) : t_kilnlaw06_ParseErrors (lpF 400) G0 (runS (FS (lpF 400) G0) 400) z0 z1 4 5 .e 0 isT = True := by kernel_rfl
theorem case_4_11 (z0 z1 : Int) : t_kilnlaw06_ParseErrors (lpF 400) G0 (runS (FS (lpF 400) G0) 400) z0 z1 4 11 .e 0 isT = True := by kernel_rfl
theorem case_5_1 (z0 z1 : Int) : t_kilnlaw06_ParseErrors (lpF 400) G0 (runS (FS (lpF 400) G0) 400) z0 z1 5 1 .e 0 isT = True := by kernel_rfl
theorem case_5_7 (z0 z1 : Int) : t_kilnlaw06_ParseErrors (lpF 400) G0 (runS (FS (lpF 400) G0) 400) z0 z1 5 7 .e 0 isT = True := by kernel_rfl
theorem case_5_13 (z0 z1 : Int) : t_kilnlaw06_ParseErrors (lpF 400) G0 (runS (FS (lpF 400) G0) 400) z0 z1 5 13 .e 0 isT = True := by kernel_rfl
theorem case_6_3 (z0 z1 : Int) : t_kilnlaw06_ParseErrors (lpF 400) G0 (runS (FS (lpF 400) G0) 400) z0 z1 6 3 .e 0 isT = True := by kernel_rfl
theorem case_6_9 (z0 z1 : Int) : t_kilnlaw06_ParseErrors (lpF 400) G0 (runS (FS (lpF 400) G0) 400) z0 z1 6 9 .e 0 isT = True := by kernel_rfl
theorem case_6_15 (z0 z1 : Int) : t_kilnlaw06_ParseErrors (lpF 400) G0 (runS (FS (lpF 400) G0) 400) z0 z1 6 15 .e 0 isT = True := by kernel_rfl
theorem case_7_5 (z0 z1 : Int) : t_kilnlaw06_ParseErrors (lpF 400) G0 (runS (FS (lpF 400) G0) 400) z0 z1 7 5 .e 0 isT = True := by kernel_rfl
theorem case_7_11 (z0 z1 : Int) : t_kilnlaw06_ParseErrors (lpF 400) G0 (runS (FS (lpF 400) G0) 400) z0 z1 7 11 .e 0 isT = True := by kernel_rfl
theorem case_8_1 (z0 z1 : Int) : t_kilnlaw06_ParseErrors (lpF 400) G0 (runS (FS (lpF 400) G0) 400) z0 z1 8 1 .e 0 isT = True := by kernel_rfl
theorem case_8_7 (z0 z1 : Int) : t_kilnlaw06_ParseErrors (lpF 400) G0 (runS (FS (lpF 400) G0) 400) z0 z1 8 7 .e 0 isT = True := by kernel_rfl
theorem case_8_13 (z0 z1 : Int) : t_kilnlaw06_ParseErrors (lpF 400) G0 (runS (FS (lpF 400) G0) 400) z0 z1 8 13 .e 0 isT = True := by kernel_rfl
theorem case_9_3 (z0 z1 : Int) : t_kilnlaw06_ParseErrors (lpF 400) G0 (runS (FS (lpF 400) G0) 400) z0 z1 9 3 .e 0 isT = True := by kernel_rfl
theorem case_9_9 (z0 z1 : Int) : t_kilnlaw06_ParseErrors (lpF 400) G0 (runS (FS (lpF 400) G0) 400) z0 z1 9 9 .e 0 isT = True := by kernel_rfl
theorem case_9_15 (z0 z1 : Int) : t_kilnlaw06_ParseErrors (lpF 400) G0 (runS (FS (lpF 400) G0) 400) z0 z1 9 15 .e 0 isT = True := by kernel_rfl
theorem case_10_5 (z0 z1 : Int) : t_kilnlaw06_ParseErrors (lpF 400) G0 (runS (FS (lpF 400) G0) 400) z0 z1 10 5 .e 0 isT = True := by kernel_rfl
theorem case_10_11 (z0 z1 : Int) : t_kilnlaw06_ParseErrors (lpF 400) G0 (runS (FS (lpF 400) G0) 400) z0 z1 10 11 .e 0 isT = True := by kernel_rfl
theorem case_11_1 (z0 z1 : Int) : t_kilnlaw06_ParseErrors (lpF 400) G0 (runS (FS (lpF 400) G0) 400) z0 z1 11 1 .e 0 isT = True := by kernel_rfl
theorem case_11_7 (z0 z1 : Int) : t_kilnlaw06_ParseErrors (lpF 400) G0 (runS (FS (lpF 400) G0) 400) z0 z1 11 7 .e 0 isT = True := by kernel_rfl
theorem case_11_13 (z0 z1 : Int) : t_kilnlaw06_ParseErrors (lpF 400) G0 (runS (FS (lpF 400) G0) 400) z0 z1 11 13 .e 0 isT = True := by kernel_rfl
theorem case_12_3 (z0 z1 : Int) : t_kilnlaw06_ParseErrors (lpF 400) G0 (runS (FS (lpF 400) G0) 400) z0 z1 12 3 .e 0 isT = True := by kernel_rfl
theorem case_12_9 (z0 z1 : Int) : t_kilnlaw06_ParseErrors (lpF 400) G0 (runS (FS (lpF 400) G0) 400) z0 z1 12 9 .e 0 isT = True := by kernel_rfl
theorem case_12_15 (z0 z1 : Int) : t_kilnlaw06_ParseErrors (lpF 400) G0 (runS (FS (lpF 400) G0) 400) z0 z1 12 15 .e 0 isT = True := by kernel_rfl
theorem case_13_5 (z0 z1 : Int) : t_kilnlaw06_ParseErrors (lpF 400) G0 (runS (FS (lpF 400) G0) 400) z0 z1 13 5 .e 0 isT = True := by kernel_rfl
theorem case_13_11 (z0 z1 : Int) : t_kilnlaw06_ParseErrors (lpF 400) G0 (runS (FS (lpF 400) G0) 400) z0 z1 13 11 .e 0 isT = True := by kernel_rfl
theorem case_14_1 (z0 z1 : Int) : t_kilnlaw06_ParseErrors (lpF 400) G0 (runS (FS (lpF 400) G0) 400) z0 z1 14 1 .e 0 isT = True := by kernel_rfl
theorem case_14_7 (z0 z1 : Int) : t_kilnlaw06_ParseErrors (lpF 400) G0 (runS (FS (lpF 400) G0) 400) z0 z1 14 7 .e 0 isT = True := by kernel_rfl
theorem case_14_13 (z0 z1 : Int) : t_kilnlaw06_ParseErrors (lpF 400) G0 (runS (FS (lpF 400) G0) 400) z0 z1 14 13 .e 0 isT = True := by kernel_rfl
theorem case_15_3 (z0 z1 : Int) : t_kilnlaw06_ParseErrors (lpF 400) G0 (runS (FS (lpF 400) G0) 400) z0 z1 15 3 .e 0 isT = True := by kernel_rfl
theorem case_15_9 (z0 z1 : Int) : t_kilnlaw06_ParseErrors (lpF 400) G0 (runS (FS (lpF 400) G0) 400) z0 z1 15 9 .e 0 isT = True := by kernel_rfl
theorem case_15_15 (z0 z1 : Int) : t_kilnlaw06_ParseErrors (lpF 400) G0 (runS (FS (lpF 400) G0) 400) z0 z1 15 15 .e 0 isT = True := by kernel_rfl
theorem case_16_5 (z0 z1 : Int) : t_kilnlaw06_ParseErrors (lpF 400) G0 (runS (FS (lpF 400) G0) 400) z0 z1 16 5 .e 0 isT = True := by kernel_rfl
theorem case_16_11 (z0 z1 : Int) : t_kilnlaw06_ParseErrors (lpF 400) G0 (runS (FS (lpF 400) G0) 400) z0 z1 16 11 .e 0 isT = True := by kernel_rfl
theorem case_17_1 (z0 z1 : Int) : t_kilnlaw06_ParseErrors (lpF 400) G0 (runS (FS (lpF 400) G0) 400) z0 z1 17 1 .e 0 isT = True := by kernel_rfl
theorem case_17_7 (z0 z1 : Int) : t_kilnlaw06_ParseErrors (lpF 400) G0 (runS (FS (lpF 400) G0) 400) z0 z1 17 7 .e 0 isT = True := by kernel_rfl
theorem case_17_13 (z0 z1 : Int) : t_kilnlaw06_ParseErrors (lpF 400) G0 (runS (FS (lpF 400) G0) 400) z0 z1 17 13 .e 0 isT = True := by kernel_rfl
theorem case_18_3 (z0 z1 : Int) : t_kilnlaw06_ParseErrors (lpF 400) G0 (runS (FS (lpF 400) G0) 400) z0 z1 18 3 .e 0 isT = True := by kernel_rfl
theorem case_18_9 (z0 z1 : Int) : t_kilnlaw06_ParseErrors (lpF 400) G0 (runS (FS (lpF 400) G0) 400) z0 z1 18 9 .e 0 isT = True := by kernel_rfl
theorem case_18_15 (z0 z1 : Int) : t_kilnlaw06_ParseErrors (lpF 400) G0 (runS (FS (lpF 400) G0) 400) z0 z1 18 15 .e 0 isT = True := by kernel_rfl
theorem case_19_5 (z0 z1 : Int) : t_kilnlaw06_ParseErrors (lpF 400) G0 (runS (FS (lpF 400) G0) 400) z0 z1 19 5 .e 0 isT = True := by kernel_rfl
theorem case_19_11 (z0 z1 : Int) : t_kilnlaw06_ParseErrors (lpF 400) G0 (runS (FS (lpF 400) G0) 400) z0 z1 19 11 .e 0 isT = True := by kernel_rfl
end Go.P2.W2L

