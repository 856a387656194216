/- Part of a proof: texts GB4 of the engine and what is proved with it; nothing is assumed. -/
import Derived.Test.YtdplchkljbfjdaaGreatDoorLaw
set_option linter.unusedVariables false
set_option linter.unusedSimpArgs false
set_option maxRecDepth 100000
namespace Go.R5.GB
open Go.Eng Go.R5
theorem c2f (g d m : Nat) : tt g d 2 m false false = C := by kernel_rfl
theorem c5t (g d m : Nat) : tt g d 5 m true false = C := by kernel_rfl
theorem c10f (g d m : Nat) : tt g d 10 m false false = C := by kernel_rfl
theorem c13t (g d m : Nat) : tt g d 13 m true false = C := by kernel_rfl
theorem c18f (g d m : Nat) : tt g d 18 m false false = C := by kernel_rfl
theorem c21t (g d m : Nat) : tt g d 21 m true false = C := by kernel_rfl
theorem c26f (g d m : Nat) : tt g d 26 m false false = C := by kernel_rfl
theorem c29t (g d m : Nat) : tt g d 29 m true false = C := by kernel_rfl
theorem c34f (g d m : Nat) : tt g d 34 m false false = C := by kernel_rfl
theorem c37t (g d m : Nat) : tt g d 37 m true false = C := by kernel_rfl
end Go.R5.GB

