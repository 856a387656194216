/- Part of a proof: texts GB5 of the engine and what is proved with it; nothing is assumed. -/
import Derived.Test.YtdplchkljbfjdaaGreatDoorLaw
set_option linter.unusedVariables false
set_option linter.unusedSimpArgs false
set_option maxRecDepth 100000
namespace Go.R5.GB
open Go.Eng Go.R5
theorem c2t (g d m : Nat) : tt g d 2 m true false = C := by kernel_rfl
theorem c5f (g d m : Nat) : tt g d 5 m false false = C := by kernel_rfl
theorem c10t (g d m : Nat) : tt g d 10 m true false = C := by kernel_rfl
theorem c13f (g d m : Nat) : tt g d 13 m false false = C := by kernel_rfl
theorem c18t (g d m : Nat) : tt g d 18 m true false = C := by kernel_rfl
theorem c21f (g d m : Nat) : tt g d 21 m false false = C := by kernel_rfl
theorem c26t (g d m : Nat) : tt g d 26 m true false = C := by kernel_rfl
theorem c29f (g d m : Nat) : tt g d 29 m false false = C := by kernel_rfl
theorem c34t (g d m : Nat) : tt g d 34 m true false = C := by kernel_rfl
theorem c37f (g d m : Nat) : tt g d 37 m false false = C := by kernel_rfl
end Go.R5.GB

