/- Part of a proof: texts W3L1 of the engine and what is proved with it; nothing is assumed. -/
import Derived.Test.YtcjkfmaoahojeaaDoorLaw
set_option linter.unusedVariables false
set_option linter.unusedSimpArgs false
set_option maxRecDepth 100000
namespace Go.P2.W3L
open Go.Eng Go.P2
theorem case_0_false (z0 : Int) : t_kilnlaw06_ParseElses (lpF 600) G0 (runS (FS (lpF 600) G0) 600) z0 false 0 .e 0 isT = True := by kernel_rfl
theorem case_3_false (z0 : Int) : t_kilnlaw06_ParseElses (lpF 600) G0 (runS (FS (lpF 600) G0) 600) z0 false 3 .e 0 isT = True := by kernel_rfl
theorem case_6_false (z0 : Int) : t_kilnlaw06_ParseElses (lpF 600) G0 (runS (FS (lpF 600) G0) 600) z0 false 6 .e 0 isT = True := by kernel_rfl
theorem case_9_false (z0 : Int) : t_kilnlaw06_ParseElses (lpF 600) G0 (runS (FS (lpF 600) G0) 600) z0 false 9 .e 0 isT = True := by kernel_rfl
theorem case_12_false (z0 : Int) : t_kilnlaw06_ParseElses (lpF 600) G0 (runS (FS (lpF 600) G0) 600) z0 false 12 .e 0 isT = True := by kernel_rfl
theorem case_15_false (z0 : Int) : t_kilnlaw06_ParseElses (lpF 600) G0 (runS (FS (lpF 600) G0) 600) z0 false 15 .e 0 isT = True := by kernel_rfl
theorem case_18_false (z0 : Int) : t_kilnlaw06_ParseElses (lpF 600) G0 (runS (FS (lpF 600) G0) 600) z0 false 18 .e 0 isT = True := by kernel_rfl
theorem case_21_false (z0 : Int) : t_kilnlaw06_ParseElses (lpF 600) G0 (runS (FS (lpF 600) G0) 600) z0 false 21 .e 0 isT = True := by kernel_rfl
theorem case_24_false (z0 : Int) : t_kilnlaw06_ParseElses (lpF 600) G0 (runS (FS (lpF 600) G0) 600) z0 false 24 .e 0 isT = True := by kernel_rfl
theorem case_27_false (z0 : Int) : t_kilnlaw06_ParseElses (lpF 600) G0 (runS (FS (lpF 600) G0) 600) z0 false 27 .e 0 isT = True := by kernel_rfl
theorem case_30_false (z0 : Int) : t_kilnlaw06_ParseElses (lpF 600) G0 (runS (FS (lpF 600) G0) 600) z0 false 30 .e 0 isT = True := by kernel_rfl
end Go.P2.W3L

