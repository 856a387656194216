/- Part of a proof: texts VA2 of the engine and what is proved with it; nothing is assumed. -/
import Derived.Test.YtdplchkljbfjdaaGreatDoorLaw
set_option linter.unusedVariables false
set_option linter.unusedSimpArgs false
set_option maxRecDepth 100000
namespace Go.R5.VA
open Go.Eng Go.R5
theorem c2 (z x : Int) : tt z x 2 = (S (W x 1) ∧ S (W x 1) ∧ S (W x 1) ∧ N (W x 1) (W x 1) ∧ N (W x 1) (W x 1) ∧ N (W x 1) (W x 1) ∧ True) := by kernel_rfl
end Go.R5.VA

