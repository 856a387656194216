/- Part of a proof: texts LG0 of the engine and what is proved with it; nothing is assumed. -/
import Derived.Test.YtgdefgnmabjmcaaGreatDoorLaw
set_option linter.unusedVariables false
set_option linter.unusedSimpArgs false
set_option maxRecDepth 100000
namespace Go.R3.LG
open Go.Eng Go.R3
theorem case_true_true_true : t_f11 (lpF 600) G0 (runS (FS (lpF 600) G0) 600) true true true .e 0 isT = True := by kernel_rfl
theorem case_false_true_true : t_f11 (lpF 600) G0 (runS (FS (lpF 600) G0) 600) false true true .e 0 isT = True := by kernel_rfl
end Go.R3.LG

