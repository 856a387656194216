/- Part of a proof: texts GB3 of the engine and what is proved with it; nothing is assumed. -/
import Derived.Test.YtdplchkljbfjdaaGreatDoorLaw
set_option linter.unusedVariables false
set_option linter.unusedSimpArgs false
set_option maxRecDepth 100000
namespace Go.R5.GB
open Go.Eng Go.R5
theorem c1t (g d m : Nat) : tt g d 1 m true false = C := by kernel_rfl
theorem c6f (g d m : Nat) : tt g d 6 m false false = C := by kernel_rfl
theorem c9t (g d m : Nat) : tt g d 9 m true false = C := by kernel_rfl
theorem c14f (g d m : Nat) : tt g d 14 m false false = C := by kernel_rfl
theorem c17t (g d m : Nat) : tt g d 17 m true false = C := by kernel_rfl
theorem c22f (g d m : Nat) : tt g d 22 m false false = C := by kernel_rfl
theorem c25t (g d m : Nat) : tt g d 25 m true false = C := by kernel_rfl
theorem c30f (g d m : Nat) : tt g d 30 m false false = C := by kernel_rfl
theorem c33t (g d m : Nat) : tt g d 33 m true false = C := by kernel_rfl
theorem c38f (g d m : Nat) : tt g d 38 m false false = C := by kernel_rfl
end Go.R5.GB

