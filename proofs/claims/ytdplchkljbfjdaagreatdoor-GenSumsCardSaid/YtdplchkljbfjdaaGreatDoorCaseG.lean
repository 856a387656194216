/- Part of a proof: texts GB6 of the engine and what is proved with it; nothing is assumed. -/
import Derived.Test.YtdplchkljbfjdaaGreatDoorLaw
set_option linter.unusedVariables false
set_option linter.unusedSimpArgs false
set_option maxRecDepth 100000
namespace Go.R5.GB
open Go.Eng Go.R5
theorem c3f (g d m : Nat) : tt g d 3 m false false = C := by kernel_rfl
theorem c4t (g d m : Nat) : tt g d 4 m true false = C := by kernel_rfl
theorem c11f (g d m : Nat) : tt g d 11 m false false = C := by kernel_rfl
theorem c12t (g d m : Nat) : tt g d 12 m true false = C := by kernel_rfl
theorem c19f (g d m : Nat) : tt g d 19 m false false = C := by kernel_rfl
theorem c20t (g d m : Nat) : tt g d 20 m true false = C := by kernel_rfl
theorem c27f (g d m : Nat) : tt g d 27 m false false = C := by kernel_rfl
theorem c28t (g d m : Nat) : tt g d 28 m true false = C := by kernel_rfl
theorem c35f (g d m : Nat) : tt g d 35 m false false = C := by kernel_rfl
theorem c36t (g d m : Nat) : tt g d 36 m true false = C := by kernel_rfl
end Go.R5.GB

