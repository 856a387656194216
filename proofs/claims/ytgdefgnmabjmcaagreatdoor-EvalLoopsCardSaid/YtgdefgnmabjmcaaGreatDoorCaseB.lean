/- Part of a proof: texts LM1 of the engine and what is proved with it; nothing is assumed. -/
import Derived.Test.YtgdefgnmabjmcaaGreatDoorLaw
set_option linter.unusedVariables false
set_option linter.unusedSimpArgs false
set_option maxRecDepth 100000
namespace Go.R3.LM
open Go.Eng Go.R3
theorem c1 (z0 z1 : Int) (x : Nat) : tt z0 z1 1 x = (Is x 1 ∧ Outs x 1 0) := by kernel_rfl
theorem c14 (z0 z1 : Int) (x : Nat) : tt z0 z1 14 x = (Is x 14 ∧ Outs x 14 0) := by kernel_rfl
theorem c17 (z0 z1 : Int) (x : Nat) : tt z0 z1 17 x = (Is x 17 ∧ Outs x 17 0) := by kernel_rfl
theorem c30 (z0 z1 : Int) (x : Nat) : tt z0 z1 30 x = (Is x 30 ∧ Outs x 30 0) := by kernel_rfl
theorem c33 (z0 z1 : Int) (x : Nat) : tt z0 z1 33 x = (Is x 33 ∧ Outs x 33 0) := by kernel_rfl
theorem c46 (z0 z1 : Int) (x : Nat) : tt z0 z1 46 x = (Is x 46 ∧ Outs x 46 0) := by kernel_rfl
theorem c49 (z0 z1 : Int) (x : Nat) : tt z0 z1 49 x = (Is x 49 ∧ Outs x 49 0) := by kernel_rfl
theorem c62 (z0 z1 : Int) (x : Nat) : tt z0 z1 62 x = (Is x 62 ∧ Outs x 62 0) := by kernel_rfl
end Go.R3.LM

