/- Part of a proof: texts VB1 of the engine and what is proved with it; nothing is assumed. -/
import Derived.Test.YtdplchkljbfjdaaGreatDoorLaw
set_option linter.unusedVariables false
set_option linter.unusedSimpArgs false
set_option maxRecDepth 100000
namespace Go.R5.VB
open Go.Eng Go.R5
theorem cm1 (z : Int) : tt (FS (lpF 600) G0) 1 109 z 1 false  = (C false ∧ True) := by kernel_rfl
theorem cb1 (z : Int) : tt (FS (lpF 600) G0) 1 98 z 1 false  = (C false ∧ True) := by kernel_rfl
theorem cc1 (z : Int) : tt (FS (lpF 600) G0) 1 99 z 1 false  = (C false ∧ True) := by kernel_rfl
theorem cd1 (z : Int) : tt (FS (lpF 600) G0) 1 100 z 1 false  = (C false ∧ True) := by kernel_rfl
theorem co1 (l c : Nat) (z : Int) : tt fs2 l c z 1 false = Other l c := by kernel_rfl
end Go.R5.VB

