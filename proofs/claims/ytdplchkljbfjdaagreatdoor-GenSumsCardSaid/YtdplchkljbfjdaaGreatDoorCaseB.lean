/- Part of a proof: texts GB1 of the engine and what is proved with it; nothing is assumed. -/
import Derived.Test.YtdplchkljbfjdaaGreatDoorLaw
set_option linter.unusedVariables false
set_option linter.unusedSimpArgs false
set_option maxRecDepth 100000
namespace Go.R5.GB
open Go.Eng Go.R5
theorem c0t (g d m : Nat) : tt g d 0 m true false = C := by kernel_rfl
theorem c7f (g d m : Nat) : tt g d 7 m false false = C := by kernel_rfl
theorem c8t (g d m : Nat) : tt g d 8 m true false = C := by kernel_rfl
theorem c15f (g d m : Nat) : tt g d 15 m false false = C := by kernel_rfl
theorem c16t (g d m : Nat) : tt g d 16 m true false = C := by kernel_rfl
theorem c23f (g d m : Nat) : tt g d 23 m false false = C := by kernel_rfl
theorem c24t (g d m : Nat) : tt g d 24 m true false = C := by kernel_rfl
theorem c31f (g d m : Nat) : tt g d 31 m false false = C := by kernel_rfl
theorem c32t (g d m : Nat) : tt g d 32 m true false = C := by kernel_rfl
theorem c39f (g d m : Nat) : tt g d 39 m false false = C := by kernel_rfl
theorem c40t (g d m : Nat) : tt g d 40 m true false = C := by kernel_rfl
end Go.R5.GB

