/- Part of a proof: texts W3L0 of the engine and what is proved with it; nothing is assumed. -/
import Derived.Test.YtcjkfmaoahojeaaDoorLaw
set_option linter.unusedVariables false
set_option linter.unusedSimpArgs false
set_option maxRecDepth 100000
namespace Go.P2.W3L
open Go.Eng Go.P2
theorem case_0_true (z0 : Int) : t_kilnlaw06_ParseElses (lpF 600) G0 (runS (FS (lpF 600) G0) 600) z0 true 0 .e 0 isT = True := by kernel_rfl
theorem case_3_true (z0 : Int) : t_kilnlaw06_ParseElses (lpF 600) G0 (runS (FS (lpF 600) G0) 600) z0 true 3 .e 0 isT = True := by kernel_rfl
theorem case_6_true (z0 : Int) : t_kilnlaw06_ParseElses (lpF 600) G0 (runS (FS (lpF 600) G0) 600) z0 true 6 .e 0 isT = True := by kernel_rfl
theorem case_9_true (z0 : Int) : t_kilnlaw06_ParseElses (lpF 600) G0 (runS (FS (lpF 600) G0) 600) z0 true 9 .e 0 isT = True := by kernel_rfl
theorem case_12_true (z0 : Int) : t_kilnlaw06_ParseElses (lpF 600) G0 (runS (FS (lpF 600) G0) 600) z0 true 12 .e 0 isT = True := by kernel_rfl
theorem case_15_true (z0 : Int) : t_kilnlaw06_ParseElses (lpF 600) G0 (runS (FS (lpF 600) G0) 600) z0 true 15 .e 0 isT = True := by kernel_rfl
theorem case_18_true (z0 : Int) : t_kilnlaw06_ParseElses (lpF 600) G0 (runS (FS (lpF 600) G0) 600) z0 true 18 .e 0 isT = True := by kernel_rfl
theorem case_21_true (z0 : Int) : t_kilnlaw06_ParseElses (lpF 600) G0 (runS (FS (lpF 600) G0) 600) z0 true 21 .e 0 isT = True := by kernel_rfl
theorem case_24_true (z0 : Int) : t_kilnlaw06_ParseElses (lpF 600) G0 (runS (FS (lpF 600) G0) 600) z0 true 24 .e 0 isT = True := by kernel_rfl
theorem case_27_true (z0 : Int) : t_kilnlaw06_ParseElses (lpF 600) G0 (runS (FS (lpF 600) G0) 600) z0 true 27 .e 0 isT = True := by kernel_rfl
theorem case_30_true (z0 : Int) : t_kilnlaw06_ParseElses (lpF 600) G0 (runS (FS (lpF 600) G0) 600) z0 true 30 .e 0 isT = True := by kernel_rfl
end Go.P2.W3L

