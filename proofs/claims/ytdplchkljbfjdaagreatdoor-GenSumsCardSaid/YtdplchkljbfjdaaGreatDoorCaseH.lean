/- Part of a proof: texts GB7 of the engine and what is proved with it; nothing is assumed. -/
import Derived.Test.YtdplchkljbfjdaaGreatDoorLaw
set_option linter.unusedVariables false
set_option linter.unusedSimpArgs false
set_option maxRecDepth 100000
namespace Go.R5.GB
open Go.Eng Go.R5
theorem c3t (g d m : Nat) : tt g d 3 m true false = C := by kernel_rfl
theorem c4f (g d m : Nat) : tt g d 4 m false false = C := by kernel_rfl
theorem c11t (g d m : Nat) : tt g d 11 m true false = C := by kernel_rfl
theorem c12f (g d m : Nat) : tt g d 12 m false false = C := by kernel_rfl
theorem c19t (g d m : Nat) : tt g d 19 m true false = C := by kernel_rfl
theorem c20f (g d m : Nat) : tt g d 20 m false false = C := by kernel_rfl
theorem c27t (g d m : Nat) : tt g d 27 m true false = C := by kernel_rfl
theorem c28f (g d m : Nat) : tt g d 28 m false false = C := by kernel_rfl
theorem c35t (g d m : Nat) : tt g d 35 m true false = C := by kernel_rfl
theorem c36f (g d m : Nat) : tt g d 36 m false false = C := by kernel_rfl
end Go.R5.GB

