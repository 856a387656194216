/- Part of a proof: texts GA1 of the engine and what is proved with it; nothing is assumed. -/
import Derived.Test.YtdplchkljbfjdaaGreatDoorLaw
set_option linter.unusedVariables false
set_option linter.unusedSimpArgs false
set_option maxRecDepth 100000
namespace Go.R5.GA
open Go.Eng Go.R5
theorem case_0_1 (z0 z1 : Int) : t_f3 (lpF 600) G0 (runS (FS (lpF 600) G0) 600) z0 z1 0 1 .e 0 isT = True := by kernel_rfl
theorem case_1_1 (z0 z1 : Int) : t_f3 (lpF 600) G0 (runS (FS (lpF 600) G0) 600) z0 z1 1 1 .e 0 isT = True := by kernel_rfl
theorem case_2_1 (z0 z1 : Int) : t_f3 (lpF 600) G0 (runS (FS (lpF 600) G0) 600) z0 z1 2 1 .e 0 isT = True := by kernel_rfl
theorem case_3_1 (z0 z1 : Int) : t_f3 (lpF 600) G0 (runS (FS (lpF 600) G0) 600) z0 z1 3 1 .e 0 isT = True := by kernel_rfl
end Go.R5.GA

