/- Part of a proof: texts LH0 of the engine and what is proved with it; nothing is assumed. -/
import Derived.Test.YtgdefgnmabjmcaaGreatDoorLaw
set_option linter.unusedVariables false
set_option linter.unusedSimpArgs false
set_option maxRecDepth 100000
namespace Go.R3.LH
open Go.Eng Go.R3
theorem case_0_0 (z0 z1 : Int) : t_f14 (lpF 600) G0 (runS (FS (lpF 600) G0) 600) z0 z1 0 0 .e 0 isT = True := by kernel_rfl
theorem case_1_0 (z0 z1 : Int) : t_f14 (lpF 600) G0 (runS (FS (lpF 600) G0) 600) z0 z1 1 0 .e 0 isT = True := by kernel_rfl
theorem case_2_0 (z0 z1 : Int) : t_f14 (lpF 600) G0 (runS (FS (lpF 600) G0) 600) z0 z1 2 0 .e 0 isT = True := by kernel_rfl
theorem case_3_0 (z0 z1 : Int) : t_f14 (lpF 600) G0 (runS (FS (lpF 600) G0) 600) z0 z1 3 0 .e 0 isT = True := by kernel_rfl
end Go.R3.LH

