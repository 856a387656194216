/- Part of a proof: texts W3L4 of the engine and what is proved with it; nothing is assumed. -/
import Derived.Test.YtcjkfmaoahojeaaDoorLaw
set_option linter.unusedVariables false
set_option linter.unusedSimpArgs false
set_option maxRecDepth 100000
namespace Go.P2.W3L
open Go.Eng Go.P2
theorem case_2_true (z0 : Int) : t_kilnlaw06_ParseElses (lpF 600) G0 (runS (FS (lpF 600) G0) 600) z0 true 2 .e 0 isT = True := by kernel_rfl
theorem case_5_true (z0 : Int) : t_kilnlaw06_ParseElses (lpF 600) G0 (runS (FS (lpF 600) G0) 600) z0 true 5 .e 0 isT = True := by kernel_rfl
theorem case_8_true (z0 : Int) : t_kilnlaw06_ParseElses (lpF 600) G0 (runS (FS (lpF 600) G0) 600) z0 true 8 .e 0 isT = True := by kernel_rfl
theorem case_11_true (z0 : Int) : t_kilnlaw06_ParseElses (lpF 600) G0 (runS (FS (lpF 600) G0) 600) z0 true 11 .e 0 isT = True := by kernel_rfl
theorem case_14_true (z0 : Int) : t_kilnlaw06_ParseElses (lpF 600) G0 (runS (FS (lpF 600) G0) 600) z0 true 14 .e 0 isT = True := by kernel_rfl
theorem case_17_true (z0 : Int) : t_kilnlaw06_ParseElses (lpF 600) G0 (runS (FS (lpF 600) G0) 600) z0 true 17 .e 0 isT = True := by kernel_rfl
theorem case_20_true (z0 : Int) : t_kilnlaw06_ParseElses (lpF 600) G0 (runS (FS (lpF 600) G0) 600) z0 true 20 .e 0 isT = True := by kernel_rfl
theorem case_23_true (z0 : Int) : t_kilnlaw06_ParseElses (lpF 600) G0 (runS (FS (lpF 600) G0) 600) z0 true 23 .e 0 isT = True := by kernel_rfl
theorem case_26_true (z0 : Int) : t_kilnlaw06_ParseElses (lpF 600) G0 (runS (FS (lpF 600) G0) 600) z0 true 26 .e 0 isT = True := by kernel_rfl
theorem case_29_true (z0 : Int) : t_kilnlaw06_ParseElses (lpF 600) G0 (runS (FS (lpF 600) G0) 600) z0 true 29 .e 0 isT = True := by kernel_rfl
end Go.P2.W3L

