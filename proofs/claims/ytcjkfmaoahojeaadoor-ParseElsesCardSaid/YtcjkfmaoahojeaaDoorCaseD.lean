/- Part of a proof: texts W3L3 of the engine and what is proved with it; nothing is assumed. -/
import Derived.Test.YtcjkfmaoahojeaaDoorLaw
set_option linter.unusedVariables false
set_option linter.unusedSimpArgs false
set_option maxRecDepth 100000
namespace Go.P2.W3L
open Go.Eng Go.P2
theorem case_1_false (z0 : Int) : t_kilnlaw06_ParseElses (lpF 600) G0 (runS (FS (lpF 600) G0) 600) z0 false 1 .e 0 isT = True := by kernel_rfl
theorem case_4_false (z0 : Int) : t_kilnlaw06_ParseElses (lpF 600) G0 (runS (FS (lpF 600) G0) 600) z0 false 4 .e 0 isT = True := by kernel_rfl
theorem case_7_false (z0 : Int) : t_kilnlaw06_ParseElses (lpF 600) G0 (runS (FS (lpF 600) G0) 600) z0 false 7 .e 0 isT = True := by kernel_rfl
theorem case_10_false (z0 : Int) : t_kilnlaw06_ParseElses (lpF 600) G0 (runS (FS (lpF 600) G0) 600) z0 false 10 .e 0 isT = True := by kernel_rfl
theorem case_13_false (z0 : Int) : t_kilnlaw06_ParseElses (lpF 600) G0 (runS (FS (lpF 600) G0) 600) z0 false 13 .e 0 isT = True := by kernel_rfl
theorem case_16_false (z0 : Int) : t_kilnlaw06_ParseElses (lpF 600) G0 (runS (FS (lpF 600) G0) 600) z0 false 16 .e 0 isT = True := by kernel_rfl
theorem case_19_false (z0 : Int) : t_kilnlaw06_ParseElses (lpF 600) G0 (runS (FS (lpF 600) G0) 600) z0 false 19 .e 0 isT = True := by kernel_rfl
theorem case_22_false (z0 : Int) : t_kilnlaw06_ParseElses (lpF 600) G0 (runS (FS (lpF 600) G0) 600) z0 false 22 .e 0 isT = True := by kernel_rfl
theorem case_25_false (z0 : Int) : t_kilnlaw06_ParseElses (lpF 600) G0 (runS (FS (lpF 600) G0) 600) z0 false 25 .e 0 isT = True := by kernel_rfl
theorem case_28_false (z0 : Int) : t_kilnlaw06_ParseElses (lpF 600) G0 (runS (FS (lpF 600) G0) 600) z0 false 28 .e 0 isT = True := by kernel_rfl
theorem case_31_false (z0 : Int) : t_kilnlaw06_ParseElses (lpF 600) G0 (runS (FS (lpF 600) G0) 600) z0 false 31 .e 0 isT = True := by kernel_rfl
end Go.P2.W3L

