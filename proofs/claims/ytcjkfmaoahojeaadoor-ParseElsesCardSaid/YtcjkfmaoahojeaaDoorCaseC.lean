/- Part of a proof: texts W3L2 of the engine and what is proved with it; nothing is assumed. -/
import Derived.Test.YtcjkfmaoahojeaaDoorLaw
set_option linter.unusedVariables false
set_option linter.unusedSimpArgs false
set_option maxRecDepth 100000
namespace Go.P2.W3L
open Go.Eng Go.P2
theorem case_1_true (z0 : Int) : t_kilnlaw06_ParseElses (lpF 600) G0 (runS (FS (lpF 600) G0) 600) z0 true 1 .e 0 isT = True := by kernel_rfl
theorem case_4_true (z0 : Int) : t_kilnlaw06_ParseElses (lpF 600) G0 (runS (FS (lpF 600) G0) 600) z0 true 4 .e 0 isT = True := by kernel_rfl
theorem case_7_true (z0 : Int) : t_kilnlaw06_ParseElses (lpF 600) G0 (runS (FS (lpF 600) G0) 600) z0 true 7 .e 0 isT = True := by kernel_rfl
theorem case_10_true (z0 : Int) : t_kilnlaw06_ParseElses (lpF 600) G0 (runS (FS (lpF 600) G0) 600) z0 true 10 .e 0 isT = True := by kernel_rfl
theorem case_13_true (z0 : Int) : t_kilnlaw06_ParseElses (lpF 600) G0 (runS (FS (lpF 600) G0) 600) z0 true 13 .e 0 isT = True := by kernel_rfl
theorem case_16_true (z0 : Int) : t_kilnlaw06_ParseElses (lpF 600) G0 (runS (FS (lpF 600) G0) 600) z0 true 16 .e 0 isT = True := by kernel_rfl
theorem case_19_true (z0 : Int) : t_kilnlaw06_ParseElses (lpF 600) G0 (runS (FS (lpF 600) G0) 600) z0 true 19 .e 0 isT = True := by kernel_rfl
theorem case_22_true (z0 : Int) : t_kilnlaw06_ParseElses (lpF 600) G0 (runS (FS (lpF 600) G0) 600) z0 true 22 .e 0 isT = True := by kernel_rfl
theorem case_25_true (z0 : Int) : t_kilnlaw06_ParseElses (lpF 600) G0 (runS (FS (lpF 600) G0) 600) z0 true 25 .e 0 isT = True := by kernel_rfl
theorem case_28_true (z0 : Int) : t_kilnlaw06_ParseElses (lpF 600) G0 (runS (FS (lpF 600) G0) 600) z0 true 28 .e 0 isT = True := by kernel_rfl
theorem case_31_true (z0 : Int) : t_kilnlaw06_ParseElses (lpF 600) G0 (runS (FS (lpF 600) G0) 600) z0 true 31 .e 0 isT = True := by kernel_rfl
end Go.P2.W3L

