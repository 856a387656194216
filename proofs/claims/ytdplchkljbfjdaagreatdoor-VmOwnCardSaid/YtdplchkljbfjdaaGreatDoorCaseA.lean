/- Part of a proof: texts VA0 of the engine and what is proved with it; nothing is assumed. -/
import Derived.Test.YtdplchkljbfjdaaGreatDoorLaw
set_option linter.unusedVariables false
set_option linter.unusedSimpArgs false
set_option maxRecDepth 100000
namespace Go.R5.VA
open Go.Eng Go.R5
theorem c0 (z x : Int) : tt z x 0 = (S x ∧ S x ∧ N x (W x 0) ∧ N x (W x 0) ∧ True) := by kernel_rfl
end Go.R5.VA

