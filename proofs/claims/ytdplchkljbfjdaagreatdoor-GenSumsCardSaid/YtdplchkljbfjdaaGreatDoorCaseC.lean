/- Part of a proof: texts GB2 of the engine and what is proved with it; nothing is assumed. -/
import Derived.Test.YtdplchkljbfjdaaGreatDoorLaw
set_option linter.unusedVariables false
set_option linter.unusedSimpArgs false
set_option maxRecDepth 100000
namespace Go.R5.GB
open Go.Eng Go.R5
theorem c1f (g d m : Nat) : tt g d 1 m false false = C := by kernel_rfl
theorem c6t (g d m : Nat) : tt g d 6 m true false = C := by kernel_rfl
theorem c9f (g d m : Nat) : tt g d 9 m false false = C := by kernel_rfl
theorem c14t (g d m : Nat) : tt g d 14 m true false = C := by kernel_rfl
theorem c17f (g d m : Nat) : tt g d 17 m false false = C := by kernel_rfl
theorem c22t (g d m : Nat) : tt g d 22 m true false = C := by kernel_rfl
theorem c25f (g d m : Nat) : tt g d 25 m false false = C := by kernel_rfl
theorem c30t (g d m : Nat) : tt g d 30 m true false = C := by kernel_rfl
theorem c33f (g d m : Nat) : tt g d 33 m false false = C := by kernel_rfl
theorem c38t (g d m : Nat) : tt g d 38 m true false = C := by kernel_rfl
end Go.R5.GB

