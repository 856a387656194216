/- Part of a proof: texts W2L5 of the engine and what is proved with it; nothing is assumed. -/
import Derived.Test.YtcjkfmaoahojeaaDoorLaw
set_option linter.unusedVariables false
set_option linter.unusedSimpArgs false
set_option maxRecDepth 100000
namespace Go.P2.W2L
open Go.Eng Go.P2
theorem case_0_5 (z0 z1 : Int) : t_kilnlaw06_ParseErrors (lpF 400) G0 (runS (FS (lpF 400) G0) 400) z0 z1 0 5 .e 0 isT = True := by kernel_rfl
theorem case_0_11 (z0 z1 : Int) : t_kilnlaw06_ParseErrors (lpF 400) G0 (runS (FS (lpF 400) G0) 400) z0 z1 0 11 .e 0 isT = True := by kernel_rfl
theorem case_1_1 (z0 z1 : Int) : t_kilnlaw06_ParseErrors (lpF 400) G0 (runS (FS (lpF 400) G0) 400) z0 z1 1 1 .e 0 isT = True := by kernel_rfl
theorem case_1_7 (z0 z1 : Int) : t_kilnlaw06_ParseErrors (lpF 400) G0 (runS (FS (lpF 400) G0) 400) z0 z1 1 7 .e 0 isT = True := by kernel_rfl
theorem case_1_13 (z0 z1 : Int) : t_kilnlaw06_ParseErrors (lpF 400) G0 (runS (FS (lpF 400) G0) 400) z0 z1 1 13 .e 0 isT = True := by kernel_rfl
theorem case_2_3 (z0 z1 : Int) : t_kilnlaw06_ParseErrors (lpF 400) G0 (runS (FS (lpF 400) G0) 400) z0 z1 2 3 .e 0 isT = True := by kernel_rfl
theorem case_2_9 (z0 z1 : Int) : t_kilnlaw06_ParseErrors (lpF 400) G0 (runS (FS (lpF 400) G0) 400) z0 z1 2 9 .e 0 isT = True := by kernel_rfl
theorem case_2_15 (z0 z1 : Int) : t_kilnlaw06_ParseErrors (lpF 400) G0 (runS (FS (lpF 400) G0) 400) z0 z1 2 15 .e 0 isT = True := by kernel_rfl
theorem case_3_5 (z0 z1 : Int) : t_kilnlaw06_ParseErrors (lpF 400) G0 (runS (FS (lpF 400) G0) 400) z0 z1 3 5 .e 0 isT = True := by kernel_rfl
theorem case_3_11 (z0 z1 : Int) : t_kilnlaw06_ParseErrors (lpF 400) G0 (runS (FS (lpF 400) G0) 400) z0 z1 3 11 .e 0 isT = True := by kernel_rfl
theorem case_4_1 (z0 z1 : Int) : t_kilnlaw06_ParseErrors (lpF 400) G0 (runS (FS (lpF 400) G0) 400) z0 z1 4 1 .e 0 isT = True := by kernel_rfl
theorem case_4_7 (z0 z1 : Int) : t_kilnlaw06_ParseErrors (lpF 400) G0 (runS (FS (lpF 400) G0) 400) z0 z1 4 7 .e 0 isT = True := by kernel_rfl
theorem case_4_13 (z0 z1 : Int) : t_kilnlaw06_ParseErrors (lpF 400) G0 (runS (FS (lpF 400) G0) 400) z0 z1 4 13 .e 0 isT = True := by kernel_rfl
theorem case_5_3 (z0 z1 : Int) : t_kilnlaw06_ParseErrors (lpF 400) G0 (runS (FS (lpF 400) G0) 400) z0 z1 5 3 .e 0 isT = True := by kernel_rfl
theorem case_5_9 (z0 z1 : Int) : t_kilnlaw06_ParseErrors (lpF 400) G0 (runS (FS (lpF 400) G0) 400) z0 z1 5 9 .e 0 isT = True := by kernel_rfl
theorem case_5_15 (z0 z1 : Int) : t_kilnlaw06_ParseErrors (lpF 400) G0 (runS (FS (lpF 400) G0) 400) z0 z1 5 15 .e 0 isT = True := by kernel_rfl
theorem case_6_5 (z0 z1 : Int) : t_kilnlaw06_ParseErrors (lpF 400) G0 (runS (FS (lpF 400) G0) 400) z0 z1 6 5 .e 0 isT = True := by kernel_rfl
theorem case_6_11 (z0 z1 : Int) : t_kilnlaw06_ParseErrors (lpF 400) G0 (runS (FS (lpF 400) G0) 400) z0 z1 6 11 .e 0 isT = True := by kernel_rfl
theorem case_7_1 (z0 z1 : Int) : t_kilnlaw06_ParseErrors (lpF 400) G0 (runS (FS (lpF 400) G0) 400) z0 z1 7 1 .e 0 isT = True := by kernel_rfl
theorem case_7_7 (z0 z1 : Int) : t_kilnlaw06_ParseErrors (lpF 400) G0 (runS (FS (lpF 400) G0) 400) z0 z1 7 7 .e 0 isT = True := by kernel_rfl
theorem case_7_13 (z0 z1 : Int) : t_kilnlaw06_ParseErrors (lpF 400) G0 (runS (FS (lpF 400) G0) 400) z0 z1 7 13 .e 0 isT = True := by kernel_rfl
theorem case_8_3 (z0 z1 : Int) : t_kilnlaw06_ParseErrors (lpF 400) G0 (runS (FS (lpF 400) G0) 400) z0 z1 8 3 .e 0 isT = True := by kernel_rfl
theorem case_8_9 (z0 z1 : Int) : t_kilnlaw06_ParseErrors (lpF 400) G0 (runS (FS (lpF 400) G0) 400) z0 z1 8 9 .e 0 isT = True := by kernel_rfl
theorem case_8_15 (z0 z1 : Int) : t_kilnlaw06_ParseErrors (lpF 400) G0 (runS (FS (lpF 400) G0) 400) z0 z1 8 15 .e 0 isT = True := by kernel_rfl
theorem case_9_5 (z0 z1 : Int) : t_kilnlaw06_ParseErrors (lpF 400) G0 (runS (FS (lpF 400) G0) 400) z0 z1 9 5 .e 0 isT = True := by kernel_rfl
theorem case_9_11 (z0 z1 : Int) : t_kilnlaw06_ParseErrors (lpF 400) G0 (runS (FS (lpF 400) G0) 400) z0 z1 9 11 .e 0 isT = True := by kernel_rfl
theorem case_10_1 (z0 z1 : Int) : t_kilnlaw06_ParseErrors (lpF 400) G0 (runS (FS (lpF 400) G0) 400) z0 z1 10 1 .e 0 isT = True := by kernel_rfl
theorem case_10_7 (z0 z1 : Int) : t_kilnlaw06_ParseErrors (lpF 400) G0 (runS (FS (lpF 400) G0) 400) z0 z1 10 7 .e 0 isT = True := by kernel_rfl
theorem case_10_13 (z0 z1 : Int) : t_kilnlaw06_ParseErrors (lpF 400) G0 (runS (FS (lpF 400) G0) 400) z0 z1 10 13 .e 0 isT = True := by kernel_rfl
theorem case_11_3 (z0 z1 : Int) : t_kilnlaw06_ParseErrors (lpF 400) G0 (runS (FS (lpF 400) G0) 400) z0 z1 11 3 .e 0 isT = True := by kernel_rfl
theorem case_11_9 (z0 z1 : Int) : t_kilnlaw06_ParseErrors (lpF 400) G0 (runS (FS (lpF 400) G0) 400) z0 z1 11 9 .e 0 isT = True := by kernel_rfl
theorem case_11_15 (z0 z1 : Int) : t_kilnlaw06_ParseErrors (lpF 400) G0 (runS (FS (lpF 400) G0) 400) z0 z1 11 15 .e 0 isT = True := by kernel_rfl
theorem case_12_5 (z0 z1 : Int) : t_kilnlaw06_ParseErrors (lpF 400) G0 (runS (FS (lpF 400) G0) 400) z0 z1 12 5 .e 0 isT = True := by kernel_rfl
theorem case_12_11 (z0 z1 : Int) : t_kilnlaw06_ParseErrors (lpF 400) G0 (runS (FS (lpF 400) G0) 400) z0 z1 12 11 .e 0 isT = True := by kernel_rfl
theorem case_13_1 (z0 z1 : Int) : t_kilnlaw06_ParseErrors (lpF 400) G0 (runS (FS (lpF 400) G0) 400) z0 z1 13 1 .e 0 isT = True := by kernel_rfl
theorem case_13_7 (z0 z1 : Int) : t_kilnlaw06_ParseErrors (lpF 400) G0 (runS (FS (lpF 400) G0) 400) z0 z1 13 7 .e 0 isT = True := by kernel_rfl
theorem case_13_13 (z0 z1 : Int) : t_kilnlaw06_ParseErrors (lpF 400) G0 (runS (FS (lpF 400) G0) 400) z0 z1 13 13 .e 0 isT = True := by kernel_rfl
theorem case_14_3 (z0 z1 : Int) : t_kilnlaw06_ParseErrors (lpF 400) G0 (runS (FS (lpF 400) G0) 400) z0 z1 14 3 .e 0 isT = True := by kernel_rfl
theorem case_14_9 (z0 z1 : Int) : t_kilnlaw06_ParseErrors (lpF 400) G0 (runS (FS (lpF 400) G0) 400) z0 z1 14 9 .e 0 isT = True := by kernel_rfl
theorem case_14_15 (z0 z1 : Int) : t_kilnlaw06_ParseErrors (lpF 400) G0 (runS (FS (lpF 400) G0) 400) z0 z1 14 15 .e 0 isT = True := by kernel_rfl
theorem case_15_5 (z0 z1 : Int) : t_kilnlaw06_ParseErrors (lpF 400) G0 (runS (FS (lpF 400) G0) 400) z0 z1 15 5 .e 0 isT = True := by kernel_rfl
theorem case_15_11 (z0 z1 : Int) : t_kilnlaw06_ParseErrors (lpF 400) G0 (runS (FS (lpF 400) G0) 400) z0 z1 15 11 .e 0 isT = True := by kernel_rfl
theorem case_16_1 (z0 z1 : Int) : t_kilnlaw06_ParseErrors (lpF 400) G0 (runS (FS (lpF 400) G0) 400) z0 z1 16 1 .e 0 isT = True := by kernel_rfl
theorem case_16_7 (z0 z1 : Int) : t_kilnlaw06_ParseErrors (lpF 400) G0 (runS (FS (lpF 400) G0) 400) z0 z1 16 7 .e 0 isT = True := by kernel_rfl
theorem case_16_13 (z0 z1 : Int) : t_kilnlaw06_ParseErrors (lpF 400) G0 (runS (FS (lpF 400) G0) 400) z0 z1 16 13 .e 0 isT = True := by kernel_rfl
theorem case_17_3 (z0 z1 : Int) : t_kilnlaw06_ParseErrors (lpF 400) G0 (runS (FS (lpF 400) G0) 400) z0 z1 17 3 .e 0 isT = True := by kernel_rfl
theorem case_17_9 (z0 z1 : Int) : t_kilnlaw06_ParseErrors (lpF 400) G0 (runS (FS (lpF 400) G0) 400) z0 z1 17 9 .e 0 isT = True := by kernel_rfl
theorem case_17_15 (z0 z1 : Int) : t_kilnlaw06_ParseErrors (lpF 400) G0 (runS (FS (lpF 400) G0) 400) z0 z1 17 15 .e 0 isT = True := by kernel_rfl
theorem case_18_5 (z0 z1 : Int) : t_kilnlaw06_ParseErrors (lpF 400) G0 (runS (FS (lpF 400) G0) 400) z0 z1 18 5 .e 0 isT = True := by kernel_rfl
theorem case_18_11 (z0 z1 : Int) : t_kilnlaw06_ParseErrors (lpF 400) G0 (runS (FS (lpF 400) G0) 400) z0 z1 18 11 .e 0 isT = True := by kernel_rfl
theorem case_19_1 (z0 z1 : Int) : t_kilnlaw06_ParseErrors (lpF 400) G0 (runS (FS (lpF 400) G0) 400) z0 z1 19 1 .e 0 isT = True := by kernel_rfl
theorem case_19_7 (z0 z1 : Int) : t_kilnlaw06_ParseErrors (lpF 400) G0 (runS (FS (lpF 400) G0) 400) z0 z1 19 7 .e 0 isT = True := by kernel_rfl
theorem case_19_13 (z0 z1 : Int) : t_kilnlaw06_ParseErrors (lpF 400) G0 (runS (FS (lpF 400) G0) 400) z0 z1 19 13 .e 0 isT = True := by kernel_rfl
end Go.P2.W2L

