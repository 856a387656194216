/- Part of a proof: texts W2L1 of the engine and what is proved with it; nothing is assumed. -/
import Derived.Test.YtcjkfmaoahojeaaDoorLaw
set_option linter.unusedVariables false
set_option linter.unusedSimpArgs false
set_option maxRecDepth 100000
namespace Go.P2.W2L
open Go.Eng Go.P2
theorem case_0_1 (z0 z1 : Int) : t_kilnlaw06_ParseErrors (lpF 400) G0 (runS (FS (lpF 400) G0) 400) z0 z1 0 1 .e 0 isT = True := by kernel_rfl
theorem case_0_7 (z0 z1 : Int) : t_kilnlaw06_ParseErrors (lpF 400) G0 (runS (FS (lpF 400) G0) 400) z0 z1 0 7 .e 0 isT = True := by kernel_rfl
theorem case_0_13 (z0 z1 : Int) : t_kilnlaw06_ParseErrors (lpF 400) G0 (runS (FS (lpF 400) G0) 400) z0 z1 0 13 .e 0 isT = True := by kernel_rfl
theorem case_1_3 (z0 z1 : Int) : t_kilnlaw06_ParseErrors (lpF 400) G0 (runS (FS (lpF 400) G0) 400) z0 z1 1 3 .e 0 isT = True := by kernel_rfl
theorem case_1_9 (z0 z1 : Int) : t_kilnlaw06_ParseErrors (lpF 400) G0 (runS (FS (lpF 400) G0) 400) z0 z1 1 9 .e 0 isT = True := by kernel_rfl
theorem case_1_15 (z0 z1 : Int) : t_kilnlaw06_ParseErrors (lpF 400) G0 (runS (FS (lpF 400) G0) 400) z0 z1 1 15 .e 0 isT = True := by kernel_rfl
theorem case_2_5 (z0 z1 : Int) : t_kilnlaw06_ParseErrors (lpF 400) G0 (runS (FS (lpF 400) G0) 400) z0 z1 2 5 .e 0 isT = True := by kernel_rfl
theorem case_2_11 (z0 z1 : Int) : t_kilnlaw06_ParseErrors (lpF 400) G0 (runS (FS (lpF 400) G0) 400) z0 z1 2 11 .e 0 isT = True := by kernel_rfl
theorem case_3_1 (z0 z1 : Int) : t_kilnlaw06_ParseErrors (lpF 400) G0 (runS (FS (lpF 400) G0) 400) z0 z1 3 1 .e 0 isT = True := by kernel_rfl
theorem case_3_7 (z0 z1 : Int) : t_kilnlaw06_ParseErrors (lpF 400) G0 (runS (FS (lpF 400) G0) 400) z0 z1 3 7 .e 0 isT = True := by kernel_rfl
theorem case_3_13 (z0 z1 : Int) : t_kilnlaw06_ParseErrors (lpF 400) G0 (runS (FS (lpF 400) G0) 400) z0 z1 3 13 .e 0 isT = True := by kernel_rfl
theorem case_4_3 (z0 z1 : Int) : t_kilnlaw06_ParseErrors (lpF 400) G0 (runS (FS (lpF 400) G0) 400) z0 z1 4 3 .e 0 isT = True := by kernel_rfl
theorem case_4_9 (z0 z1 : Int) : t_kilnlaw06_ParseErrors (lpF 400) G0 (runS (FS (lpF 400) G0) 400) z0 z1 4 9 .e 0 isT = True := by kernel_rfl
theorem case_4_15 (z0 z1 : Int) : t_kilnlaw06_ParseErrors (lpF 400) G0 (runS (FS (lpF 400) G0) 400) z0 z1 4 15 .e 0 isT = True := by kernel_rfl
theorem case_5_5 (z0 z1 : Int) : t_kilnlaw06_ParseErrors (lpF 400) G0 (runS (FS (lpF 400) G0) 400) z0 z1 5 5 .e 0 isT = True := by kernel_rfl
theorem case_5_11 (z0 z1 : Int) : t_kilnlaw06_ParseErrors (lpF 400) G0 (runS (FS (lpF 400) G0) 400) z0 z1 5 11 .e 0 isT = True := by kernel_rfl
theorem case_6_1 (z0 z1 : Int) : t_kilnlaw06_ParseErrors (lpF 400) G0 (runS (FS (lpF 400) G0) 400) z0 z1 6 1 .e 0 isT = True := by kernel_rfl
theorem case_6_7 (z0 z1 : Int) : t_kilnlaw06_ParseErrors (lpF 400) G0 (runS (FS (lpF 400) G0) 400) z0 z1 6 7 .e 0 isT = True := by kernel_rfl
theorem case_6_13 (z0 z1 : Int) : t_kilnlaw06_ParseErrors (lpF 400) G0 (runS (FS (lpF 400) G0) 400) z0 z1 6 13 .e 0 isT = True := by kernel_rfl
theorem case_7_3 (z0 z1 : Int) : t_kilnlaw06_ParseErrors (lpF 400) G0 (runS (FS (lpF 400) G0) 400) z0 z1 7 3 .e 0 isT = True := by kernel_rfl
theorem case_7_9 (z0 z1 : Int) : t_kilnlaw06_ParseErrors (lpF 400) G0 (runS (FS (lpF 400) G0) 400) z0 z1 7 9 .e 0 isT = True := by kernel_rfl
theorem case_7_15 (z0 z1 : Int) : t_kilnlaw06_ParseErrors (lpF 400) G0 (runS (FS (lpF 400) G0) 400) z0 z1 7 15 .e 0 isT = True := by kernel_rfl
theorem case_8_5 (z0 z1 : Int) : t_kilnlaw06_ParseErrors (lpF 400) G0 (runS (FS (lpF 400) G0) 400) z0 z1 8 5 .e 0 isT = True := by kernel_rfl
theorem case_8_11 (z0 z1 : Int) : t_kilnlaw06_ParseErrors (lpF 400) G0 (runS (FS (lpF 400) G0) 400) z0 z1 8 11 .e 0 isT = True := by kernel_rfl
theorem case_9_1 (z0 z1 : Int) : t_kilnlaw06_ParseErrors (lpF 400) G0 (runS (FS (lpF 400) G0) 400) z0 z1 9 1 .e 0 isT = True := by kernel_rfl
theorem case_9_7 (z0 z1 : Int) : t_kilnlaw06_ParseErrors (lpF 400) G0 (runS (FS (lpF 400) G0) 400) z0 z1 9 7 .e 0 isT = True := by kernel_rfl
theorem case_9_13 (z0 z1 : Int) : t_kilnlaw06_ParseErrors (lpF 400) G0 (runS (FS (lpF 400) G0) 400) z0 z1 9 13 .e 0 isT = True := by kernel_rfl
theorem case_10_3 (z0 z1 : Int) : t_kilnlaw06_ParseErrors (lpF 400) G0 (runS (FS (lpF 400) G0) 400) z0 z1 10 3 .e 0 isT = True := by kernel_rfl
theorem case_10_9 (z0 z1 : Int) : t_kilnlaw06_ParseErrors (lpF 400) G0 (runS (FS (lpF 400) G0) 400) z0 z1 10 9 .e 0 isT = True := by kernel_rfl
theorem case_10_15 (z0 z1 : Int) : t_kilnlaw06_ParseErrors (lpF 400) G0 (runS (FS (lpF 400) G0) 400) z0 z1 10 15 .e 0 isT = True := by kernel_rfl
theorem case_11_5 (z0 z1 : Int) : t_kilnlaw06_ParseErrors (lpF 400) G0 (runS (FS (lpF 400) G0) 400) z0 z1 11 5 .e 0 isT = True := by kernel_rfl
theorem case_11_11 (z0 z1 : Int) : t_kilnlaw06_ParseErrors (lpF 400) G0 (runS (FS (lpF 400) G0) 400) z0 z1 11 11 .e 0 isT = True := by kernel_rfl
theorem case_12_1 (z0 z1 : Int) : t_kilnlaw06_ParseErrors (lpF 400) G0 (runS (FS (lpF 400) G0) 400) z0 z1 12 1 .e 0 isT = True := by kernel_rfl
theorem case_12_7 (z0 z1 : Int) : t_kilnlaw06_ParseErrors (lpF 400) G0 (runS (FS (lpF 400) G0) 400) z0 z1 12 7 .e 0 isT = True := by kernel_rfl
theorem case_12_13 (z0 z1 : Int) : t_kilnlaw06_ParseErrors (lpF 400) G0 (runS (FS (lpF 400) G0) 400) z0 z1 12 13 .e 0 isT = True := by kernel_rfl
theorem case_13_3 (z0 z1 : Int) : t_kilnlaw06_ParseErrors (lpF 400) G0 (runS (FS (lpF 400) G0) 400) z0 z1 13 3 .e 0 isT = True := by kernel_rfl
theorem case_13_9 (z0 z1 : Int) : t_kilnlaw06_ParseErrors (lpF 400) G0 (runS (FS (lpF 400) G0) 400) z0 z1 13 9 .e 0 isT = True := by kernel_rfl
theorem case_13_15 (z0 z1 : Int) : t_kilnlaw06_ParseErrors (lpF 400) G0 (runS (FS (lpF 400) G0) 400) z0 z1 13 15 .e 0 isT = True := by kernel_rfl
theorem case_14_5 (z0 z1 : Int) : t_kilnlaw06_ParseErrors (lpF 400) G0 (runS (FS (lpF 400) G0) 400) z0 z1 14 5 .e 0 isT = True := by kernel_rfl
theorem case_14_11 (z0 z1 : Int) : t_kilnlaw06_ParseErrors (lpF 400) G0 (runS (FS (lpF 400) G0) 400) z0 z1 14 11 .e 0 isT = True := by kernel_rfl
theorem case_15_1 (z0 z1 : Int) : t_kilnlaw06_ParseErrors (lpF 400) G0 (runS (FS (lpF 400) G0) 400) z0 z1 15 1 .e 0 isT = True := by kernel_rfl
theorem case_15_7 (z0 z1 : Int) : t_kilnlaw06_ParseErrors (lpF 400) G0 (runS (FS (lpF 400) G0) 400) z0 z1 15 7 .e 0 isT = True := by kernel_rfl
theorem case_15_13 (z0 z1 : Int) : t_kilnlaw06_ParseErrors (lpF 400) G0 (runS (FS (lpF 400) G0) 400) z0 z1 15 13 .e 0 isT = True := by kernel_rfl
theorem case_16_3 (z0 z1 : Int) : t_kilnlaw06_ParseErrors (lpF 400) G0 (runS (FS (lpF 400) G0) 400) z0 z1 16 3 .e 0 isT = True := by kernel_rfl
theorem case_16_9 (z0 z1 : Int) : t_kilnlaw06_ParseErrors (lpF 400) G0 (runS (FS (lpF 400) G0) 400) z0 z1 16 9 .e 0 isT = True := by kernel_rfl
theorem case_16_15 (z0 z1 : Int) : t_kilnlaw06_ParseErrors (lpF 400) G0 (runS (FS (lpF 400) G0) 400) z0 z1 16 15 .e 0 isT = True := by kernel_rfl
theorem case_17_5 (z0 z1 : Int) : t_kilnlaw06_ParseErrors (lpF 400) G0 (runS (FS (lpF 400) G0) 400) z0 z1 17 5 .e 0 isT = True := by kernel_rfl
theorem case_17_11 (z0 z1 : Int) : t_kilnlaw06_ParseErrors (lpF 400) G0 (runS (FS (lpF 400) G0) 400) z0 z1 17 11 .e 0 isT = True := by kernel_rfl
theorem case_18_1 (z0 z1 : Int) : t_kilnlaw06_ParseErrors (lpF 400) G0 (runS (FS (lpF 400) G0) 400) z0 z1 18 1 .e 0 isT = True := by kernel_rfl
theorem case_18_7 (z0 z1 : Int) : t_kilnlaw06_ParseErrors (lpF 400) G0 (runS (FS (lpF 400) G0) 400) z0 z1 18 7 .e 0 isT = True := by kernel_rfl
theorem case_18_13 (z0 z1 : Int) : t_kilnlaw06_ParseErrors (lpF 400) G0 (runS (FS (lpF 400) G0) 400) z0 z1 18 13 .e 0 isT = True := by kernel_rfl
theorem case_19_3 (z0 z1 : Int) : t_kilnlaw06_ParseErrors (lpF 400) G0 (runS (FS (lpF 400) G0) 400) z0 z1 19 3 .e 0 isT = True := by kernel_rfl
theorem case_19_9 (z0 z1 : Int) : t_kilnlaw06_ParseErrors (lpF 400) G0 (runS (FS (lpF 400) G0) 400) z0 z1 19 9 .e 0 isT = True := by kernel_rfl
theorem case_19_15 (z0 z1 : Int) : t_kilnlaw06_ParseErrors (lpF 400) G0 (runS (FS (lpF 400) G0) 400) z0 z1 19 15 .e 0 isT = True := by kernel_rfl
end Go.P2.W2L

