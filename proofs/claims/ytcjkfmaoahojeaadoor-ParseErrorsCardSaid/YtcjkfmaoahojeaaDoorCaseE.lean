/- Part of a proof: texts W2L4 of the engine and what is proved with it; nothing is assumed. -/
import Derived.Test.YtcjkfmaoahojeaaDoorLaw
set_option linter.unusedVariables false
set_option linter.unusedSimpArgs false
set_option maxRecDepth 100000
namespace Go.P2.W2L
open Go.Eng Go.P2
theorem case_0_4 (z0 z1 : Int) : t_kilnlaw06_ParseErrors (lpF 400) G0 (runS (FS (lpF 400) G0) 400) z0 z1 0 4 .e 0 isT = True := by kernel_rfl
theorem case_0_10 (z0 z1 : Int) : t_kilnlaw06_ParseErrors (lpF 400) G0 (runS (FS (lpF 400) G0) 400) z0 z1 0 10 .e 0 isT = True := by kernel_rfl
theorem case_1_0 (z0 z1 : Int) : t_kilnlaw06_ParseErrors (lpF 400) G0 (runS (FS (lpF 400) G0) 400) z0 z1 1 0 .e 0 isT = True := by kernel_rfl
theorem case_1_6 (z0 z1 : Int) : t_kilnlaw06_ParseErrors (lpF 400) G0 (runS (FS (lpF 400) G0) 400) z0 z1 1 6 .e 0 isT = True := by kernel_rfl
theorem case_1_12 (z0 z1 : Int) : t_kilnlaw06_ParseErrors (lpF 400) G0 (runS (FS (lpF 400) G0) 400) z0 z1 1 12 .e 0 isT = True := by kernel_rfl
theorem case_2_2 (z0 z1 : Int) : t_kilnlaw06_ParseErrors (lpF 400) G0 (runS (FS (lpF 400) G0) 400) z0 z1 2 2 .e 0 isT = True := by kernel_rfl
theorem case_2_8 (z0 z1 : Int) : t_kilnlaw06_ParseErrors (lpF 400) G0 (runS (FS (lpF 400) G0) 400) z0 z1 2 8 .e 0 isT = True := by kernel_rfl
theorem case_2_14 (z0 z1 : Int) : t_kilnlaw06_ParseErrors (lpF 400) G0 (runS (FS (lpF 400) G0) 400) z0 z1 2 14 .e 0 isT = True := by kernel_rfl
theorem case_3_4 (z0 z1 : Int) : t_kilnlaw06_ParseErrors (lpF 400) G0 (runS (FS (lpF 400) G0) 400) z0 z1 3 4 .e 0 isT = True := by kernel_rfl
theorem case_3_10 (z0 z1 : Int) : t_kilnlaw06_ParseErrors (lpF 400) G0 (runS (FS (lpF 400) G0) 400) z0 z1 3 10 .e 0 isT = True := by kernel_rfl
theorem case_4_0 (z0 z1 : Int) : t_kilnlaw06_ParseErrors (lpF 400) G0 (runS (FS (lpF 400) G0) 400) z0 z1 4 0 .e 0 isT = True := by kernel_rfl
theorem case_4_6 (z0 z1 : Int) : t_kilnlaw06_ParseErrors (lpF 400) G0 (runS (FS (lpF 400) G0) 400) z0 z1 4 6 .e 0 isT = True := by kernel_rfl
theorem case_4_12 (z0 z1 : Int) : t_kilnlaw06_ParseErrors (lpF 400) G0 (runS (FS (lpF 400) G0) 400) z0 z1 4 12 .e 0 isT = True := by kernel_rfl
theorem case_5_2 (z0 z1 : Int) : t_kilnlaw06_ParseErrors (lpF 400) G0 (runS (FS (lpF 400) G0) 400) z0 z1 5 2 .e 0 isT = True := by kernel_rfl
theorem case_5_8 (z0 z1 : Int) : t_kilnlaw06_ParseErrors (lpF 400) G0 (runS (FS (lpF 400) G0) 400) z0 z1 5 8 .e 0 isT = True := by kernel_rfl
theorem case_5_14 (z0 z1 : Int) : t_kilnlaw06_ParseErrors (lpF 400) G0 (runS (FS (lpF 400) G0) 400) z0 z1 5 14 .e 0 isT = True := by kernel_rfl
theorem case_6_4 (z0 z1 : Int) : t_kilnlaw06_ParseErrors (lpF 400) G0 (runS (FS (lpF 400) G0) 400) z0 z1 6 4 .e 0 isT = True := by kernel_rfl
theorem case_6_10 (z0 z1 : Int) : t_kilnlaw06_ParseErrors (lpF 400) G0 (runS (FS (lpF 400) G0) 400) z0 z1 6 10 .e 0 isT = True := by kernel_rfl
theorem case_7_0 (z0 z1 : Int) : t_kilnlaw06_ParseErrors (lpF 400) G0 (runS (FS (lpF 400) G0) 400) z0 z1 7 0 .e 0 isT = True := by kernel_rfl
theorem case_7_6 (z0 z1 : Int) : t_kilnlaw06_ParseErrors (lpF 400) G0 (runS (FS (lpF 400) G0) 400) z0 z1 7 6 .e 0 isT = True := by kernel_rfl
theorem case_7_12 (z0 z1 : Int) : t_kilnlaw06_ParseErrors (lpF 400) G0 (runS (FS (lpF 400) G0) 400) z0 z1 7 12 .e 0 isT = True := by kernel_rfl
theorem case_8_2 (z0 z1 : Int) : t_kilnlaw06_ParseErrors (lpF 400) G0 (runS (FS (lpF 400) G0) 400) z0 z1 8 2 .e 0 isT = True := by kernel_rfl
theorem case_8_8 (z0 z1 : Int) : t_kilnlaw06_ParseErrors (lpF 400) G0 (runS (FS (lpF 400) G0) 400) z0 z1 8 8 .e 0 isT = True := by kernel_rfl
theorem case_8_14 (z0 z1 : Int) : t_kilnlaw06_ParseErrors (lpF 400) G0 (runS (FS (lpF 400) G0) 400) z0 z1 8 14 .e 0 isT = True := by kernel_rfl
theorem case_9_4 (z0 z1 : Int) : t_kilnlaw06_ParseErrors (lpF 400) G0 (runS (FS (lpF 400) G0) 400) z0 z1 9 4 .e 0 isT = True := by kernel_rfl
theorem case_9_10 (z0 z1 : Int) : t_kilnlaw06_ParseErrors (lpF 400) G0 (runS (FS (lpF 400) G0) 400) z0 z1 9 10 .e 0 isT = True := by kernel_rfl
theorem case_10_0 (z0 z1 : Int) : t_kilnlaw06_ParseErrors (lpF 400) G0 (runS (FS (lpF 400) G0) 400) z0 z1 10 0 .e 0 isT = True := by kernel_rfl
theorem case_10_6 (z0 z1 : Int) : t_kilnlaw06_ParseErrors (lpF 400) G0 (runS (FS (lpF 400) G0) 400) z0 z1 10 6 .e 0 isT = True := by kernel_rfl
theorem case_10_12 (z0 z1 : Int) : t_kilnlaw06_ParseErrors (lpF 400) G0 (runS (FS (lpF 400) G0) 400) z0 z1 10 12 .e 0 isT = True := by kernel_rfl
theorem case_11_2 (z0 z1 : Int) : t_kilnlaw06_ParseErrors (lpF 400) G0 (runS (FS (lpF 400) G0) 400) z0 z1 11 2 .e 0 isT = True := by kernel_rfl
theorem case_11_8 (z0 z1 : Int) : t_kilnlaw06_ParseErrors (lpF 400) G0 (runS (FS (lpF 400) G0) 400) z0 z1 11 8 .e 0 isT = True := by kernel_rfl
theorem case_11_14 (z0 z1 : Int) : t_kilnlaw06_ParseErrors (lpF 400) G0 (runS (FS (lpF 400) G0) 400) z0 z1 11 14 .e 0 isT = True := by kernel_rfl
theorem case_12_4 (z0 z1 : Int) : t_kilnlaw06_ParseErrors (lpF 400) G0 (runS (FS (lpF 400) G0) 400) z0 z1 12 4 .e 0 isT = True := by kernel_rfl
theorem case_12_10 (z0 z1 : Int) : t_kilnlaw06_ParseErrors (lpF 400) G0 (runS (FS (lpF 400) G0) 400) z0 z1 12 10 .e 0 isT = True := by kernel_rfl
theorem case_13_0 (z0 z1 : Int) : t_kilnlaw06_ParseErrors (lpF 400) G0 (runS (FS (lpF 400) G0) 400) z0 z1 13 0 .e 0 isT = True := by kernel_rfl
theorem case_13_6 (z0 z1 : Int) : t_kilnlaw06_ParseErrors (lpF 400) G0 (runS (FS (lpF 400) G0) 400) z0 z1 13 6 .e 0 isT = True := by kernel_rfl
theorem case_13_12 (z0 z1 : Int) : t_kilnlaw06_ParseErrors (lpF 400) G0 (runS (FS (lpF 400) G0) 400) z0 z1 13 12 .e 0 isT = True := by kernel_rfl
theorem case_14_2 (z0 z1 : Int) : t_kilnlaw06_ParseErrors (lpF 400) G0 (runS (FS (lpF 400) G0) 400) z0 z1 14 2 .e 0 isT = True := by kernel_rfl
theorem case_14_8 (z0 z1 : Int) : t_kilnlaw06_ParseErrors (lpF 400) G0 (runS (FS (lpF 400) G0) 400) z0 z1 14 8 .e 0 isT = True := by kernel_rfl
theorem case_14_14 (z0 z1 : Int) : t_kilnlaw06_ParseErrors (lpF 400) G0 (runS (FS (lpF 400) G0) 400) z0 z1 14 14 .e 0 isT = True := by kernel_rfl
theorem case_15_4 (z0 z1 : Int) : t_kilnlaw06_ParseErrors (lpF 400) G0 (runS (FS (lpF 400) G0) 400) z0 z1 15 4 .e 0 isT = True := by kernel_rfl
theorem case_15_10 (z0 z1 : Int) : t_kilnlaw06_ParseErrors (lpF 400) G0 (runS (FS (lpF 400) G0) 400) z0 z1 15 10 .e 0 isT = True := by kernel_rfl
theorem case_16_0 (z0 z1 : Int) : t_kilnlaw06_ParseErrors (lpF 400) G0 (runS (FS (lpF 400) G0) 400) z0 z1 16 0 .e 0 isT = True := by kernel_rfl
theorem case_16_6 (z0 z1 : Int) : t_kilnlaw06_ParseErrors (lpF 400) G0 (runS (FS (lpF 400) G0) 400) z0 z1 16 6 .e 0 isT = True := by kernel_rfl
theorem case_16_12 (z0 z1 : Int) : t_kilnlaw06_ParseErrors (lpF 400) G0 (runS (FS (lpF 400) G0) 400) z0 z1 16 12 .e 0 isT = True := by kernel_rfl
theorem case_17_2 (z0 z1 : Int) : t_kilnlaw06_ParseErrors (lpF 400) G0 (runS (FS (lpF 400) G0) 400) z0 z1 17 2 .e 0 isT = True := by kernel_rfl
theorem case_17_8 (z0 z1 : Int) : t_kilnlaw06_ParseErrors (lpF 400) G0 (runS (FS (lpF 400) G0) 400) z0 z1 17 8 .e 0 isT = True := by kernel_rfl
theorem case_17_14 (z0 z1 : Int) : t_kilnlaw06_ParseErrors (lpF 400) G0 (runS (FS (lpF 400) G0) 400) z0 z1 17 14 .e 0 isT = True := by kernel_rfl
theorem case_18_4 (z0 z1 : Int) : t_kilnlaw06_ParseErrors (lpF 400) G0 (runS (FS (lpF 400) G0) 400) z0 z1 18 4 .e 0 isT = True := by kernel_rfl
theorem case_18_10 (z0 z1 : Int) : t_kilnlaw06_ParseErrors (lpF 400) G0 (runS (FS (lpF 400) G0) 400) z0 z1 18 10 .e 0 isT = True := by kernel_rfl
theorem case_19_0 (z0 z1 : Int) : t_kilnlaw06_ParseErrors (lpF 400) G0 (runS (FS (lpF 400) G0) 400) z0 z1 19 0 .e 0 isT = True := by kernel_rfl
theorem case_19_6 (z0 z1 : Int) : t_kilnlaw06_ParseErrors (lpF 400) G0 (runS (FS (lpF 400) G0) 400) z0 z1 19 6 .e 0 isT = True := by kernel_rfl
theorem case_19_12 (z0 z1 : Int) : t_kilnlaw06_ParseErrors (lpF 400) G0 (runS (FS (lpF 400) G0) 400) z0 z1 19 12 .e 0 isT = True := by kernel_rfl
end Go.P2.W2L

