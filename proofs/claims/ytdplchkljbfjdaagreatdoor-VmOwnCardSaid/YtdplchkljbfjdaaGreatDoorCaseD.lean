/- Part of a proof: texts VA3 of the engine and what is proved with it; nothing is assumed. -/
import Derived.Test.YtdplchkljbfjdaaGreatDoorLaw
set_option linter.unusedVariables false
set_option linter.unusedSimpArgs false
set_option maxRecDepth 100000
namespace Go.R5.VA
open Go.Eng Go.R5
theorem c3 (z x : Int) : tt z x 3 = (S (W x 3) ∧ S (W x 3) ∧ S (W x 3) ∧ N (W x 3) (W x 3) ∧ N (W x 3) (W x 3) ∧ N (W x 3) (W x 3) ∧ True) := by kernel_rfl
end Go.R5.VA

