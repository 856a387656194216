/- Part of a proof: texts GB0 of the engine and what is proved with it; nothing is assumed. -/
import Derived.Test.YtdplchkljbfjdaaGreatDoorLaw
set_option linter.unusedVariables false
set_option linter.unusedSimpArgs false
set_option maxRecDepth 100000
namespace Go.R5.GB
open Go.Eng Go.R5
theorem c0f (g d m : Nat) : tt g d 0 m false false = C := by kernel_rfl
theorem c7t (g d m : Nat) : tt g d 7 m true false = C := by kernel_rfl
theorem c8f (g d m : Nat) : tt g d 8 m false false = C := by kernel_rfl
theorem c15t (g d m : Nat) : tt g d 15 m true false = C := by kernel_rfl
theorem c16f (g d m : Nat) : tt g d 16 m false false = C := by kernel_rfl
theorem c23t (g d m : Nat) : tt g d 23 m true false = C := by kernel_rfl
theorem c24f (g d m : Nat) : tt g d 24 m false false = C := by kernel_rfl
theorem c31t (g d m : Nat) : tt g d 31 m true false = C := by kernel_rfl
theorem c32f (g d m : Nat) : tt g d 32 m false false = C := by kernel_rfl
theorem c39t (g d m : Nat) : tt g d 39 m true false = C := by kernel_rfl
theorem c40f (g d m : Nat) : tt g d 40 m false false = C := by kernel_rfl
theorem nf : tn false = True := by kernel_rfl
theorem nt : tn true = True := by kernel_rfl
theorem cl (g d l m : Nat) (b : Bool) : tt g d (Nat.add l 41) m b true = (Long (l + 41) ∧ True) := by kernel_rfl
end Go.R5.GB

