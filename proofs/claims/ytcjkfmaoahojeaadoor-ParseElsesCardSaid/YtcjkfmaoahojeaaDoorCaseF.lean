/- Part of a proof: texts W3L5 of the engine and what is proved with it; nothing is assumed. -/
import Derived.Test.YtcjkfmaoahojeaaDoorLaw
set_option linter.unusedVariables false
set_option linter.unusedSimpArgs false
set_option maxRecDepth 100000
namespace Go.P2.W3L
open Go.Eng Go.P2
theorem case_2_false (z0 : Int) : t_kilnlaw06_ParseElses (lpF 600) G0 (runS (FS (lpF 600) G0) 600) z0 false 2 .e 0 isT = True := by kernel_rfl
theorem case_5_false (z0 : Int) : t_kilnlaw06_ParseElses (lpF 600) G0 (runS (FS (lpF 600) G0) 600) z0 false 5 .e 0 isT = True := by kernel_rfl
theorem case_8_false (z0 : Int) : t_kilnlaw06_ParseElses (lpF 600) G0 (runS (FS (lpF 600) G0) 600) z0 false 8 .e 0 isT = True := by kernel_rfl
theorem case_11_false (z0 : Int) : t_kilnlaw06_ParseElses (lpF 600) G0 (runS (FS (lpF 600) G0) 600) z0 false 11 .e 0 isT = True := by kernel_rfl
theorem case_14_false (z0 : Int) : t_kilnlaw06_ParseElses (lpF 600) G0 (runS (FS (lpF 600) G0) 600) z0 false 14 .e 0 isT = True := by kernel_rfl
theorem case_17_false (z0 : Int) : t_kilnlaw06_ParseElses (lpF 600) G0 (runS (FS (lpF 600) G0) 600) z0 false 17 .e 0 isT = True := by kernel_rfl
theorem case_20_false (z0 : Int) : t_kilnlaw06_ParseElses (lpF 600) G0 (runS (FS (lpF 600) G0) 600) z0 false 20 .e 0 isT = True := by kernel_rfl
theorem case_23_false (z0 : Int) : t_kilnlaw06_ParseElses (lpF 600) G0 (runS (FS (lpF 600) G0) 600) z0 false 23 .e 0 isT = True := by kernel_rfl
theorem case_26_false (z0 : Int) : t_kilnlaw06_ParseElses (lpF 600) G0 (runS (FS (lpF 600) G0) 600) z0 false 26 .e 0 isT = True := by kernel_rfl
theorem case_29_false (z0 : Int) : t_kilnlaw06_ParseElses (lpF 600) G0 (runS (FS (lpF 600) G0) 600) z0 false 29 .e 0 isT = True := by kernel_rfl
end Go.P2.W3L

