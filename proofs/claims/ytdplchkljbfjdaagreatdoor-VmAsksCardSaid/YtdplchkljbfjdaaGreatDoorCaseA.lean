/- Part of a proof: texts VB0 of the engine and what is proved with it; nothing is assumed. -/
import Derived.Test.YtdplchkljbfjdaaGreatDoorLaw
set_option linter.unusedVariables false
set_option linter.unusedSimpArgs false
set_option maxRecDepth 100000
namespace Go.R5.VB
open Go.Eng Go.R5
theorem cm0 (z : Int) : tt (FS (lpF 600) G0) 1 109 z 0 false  = (C false ∧ True) := by kernel_rfl
theorem cb0 (z : Int) : tt (FS (lpF 600) G0) 1 98 z 0 false  = (C false ∧ True) := by kernel_rfl
theorem cc0 (z : Int) : tt (FS (lpF 600) G0) 1 99 z 0 false  = (C false ∧ True) := by kernel_rfl
theorem cd0 (z : Int) : tt (FS (lpF 600) G0) 1 100 z 0 false  = (C false ∧ True) := by kernel_rfl
theorem co0 (l c : Nat) (z : Int) : tt fs2 l c z 0 false = Other l c := by kernel_rfl
theorem cl (l c : Nat) (z : Int) (n : Nat) : tt fs2 l c z n true = (Long l true ∧ True) := by kernel_rfl
end Go.R5.VB

