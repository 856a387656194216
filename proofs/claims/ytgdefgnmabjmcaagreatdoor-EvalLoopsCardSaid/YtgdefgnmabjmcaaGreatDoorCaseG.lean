/- Part of a proof: texts LM6 of the engine and what is proved with it; nothing is assumed. -/
import Derived.Test.YtgdefgnmabjmcaaGreatDoorLaw
set_option linter.unusedVariables false
set_option linter.unusedSimpArgs false
set_option maxRecDepth 100000
namespace Go.R3.LM
open Go.Eng Go.R3
theorem c6 (z0 z1 : Int) (x : Nat) : tt z0 z1 6 x = (Is x 6 ∧ Outs x 6 0) := by kernel_rfl
theorem c9 (z0 z1 : Int) (x : Nat) : tt z0 z1 9 x = (Is x 9 ∧ Outs x 9 0) := by kernel_rfl
theorem c22 (z0 z1 : Int) (x : Nat) : tt z0 z1 22 x = (Is x 22 ∧ Outs x 22 0) := by kernel_rfl
theorem c25 (z0 z1 : Int) (x : Nat) : tt z0 z1 25 x = (Is x 25 ∧ Outs x 25 0) := by kernel_rfl
theorem c38 (z0 z1 : Int) (x : Nat) : tt z0 z1 38 x = (Is x 38 ∧ Outs x 38 0) := by kernel_rfl
theorem c41 (z0 z1 : Int) (x : Nat) : tt z0 z1 41 x = (Is x 41 ∧ Outs x 41 0) := by kernel_rfl
theorem c54 (z0 z1 : Int) (x : Nat) : tt z0 z1 54 x = (Is x 54 ∧ Outs x 54 0) := by kernel_rfl
theorem c57 (z0 z1 : Int) (x : Nat) : tt z0 z1 57 x = (Is x 57 ∧ Outs x 57 0) := by kernel_rfl
end Go.R3.LM

