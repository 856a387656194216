/- Part of a proof: texts LH3 of the engine and what is proved with it; nothing is assumed. -/
import Derived.Test.YtgdefgnmabjmcaaGreatDoorLaw
set_option linter.unusedVariables false
set_option linter.unusedSimpArgs false
set_option maxRecDepth 100000
namespace Go.R3.LH
open Go.Eng Go.R3
theorem case_0_3 (z0 z1 : Int) : t_f14 (lpF 600) G0 (runS (FS (lpF 600) G0) 600) z0 z1 0 3 .e 0 isT = True := by kernel_rfl
theorem case_1_3 (z0 z1 : Int) : t_f14 (lpF 600) G0 (runS (FS (lpF 600) G0) 600) z0 z1 1 3 .e 0 isT = True := by kernel_rfl
theorem case_2_3 (z0 z1 : Int) : t_f14 (lpF 600) G0 (runS (FS (lpF 600) G0) 600) z0 z1 2 3 .e 0 isT = True := by kernel_rfl
theorem case_3_3 (z0 z1 : Int) : t_f14 (lpF 600) G0 (runS (FS (lpF 600) G0) 600) z0 z1 3 3 .e 0 isT = True := by kernel_rfl
end Go.R3.LH

