/- Part of a proof: texts LM7 of the engine and what is proved with it; nothing is assumed. -/
import Derived.Test.YtgdefgnmabjmcaaGreatDoorLaw
set_option linter.unusedVariables false
set_option linter.unusedSimpArgs false
set_option maxRecDepth 100000
namespace Go.R3.LM
open Go.Eng Go.R3
theorem c7 (z0 z1 : Int) (x : Nat) : tt z0 z1 7 x = (Is x 7 ∧ Outs x 7 0) := by kernel_rfl
theorem c8 (z0 z1 : Int) (x : Nat) : tt z0 z1 8 x = (Is x 8 ∧ Outs x 8 0) := by kernel_rfl
theorem c23 (z0 z1 : Int) (x : Nat) : tt z0 z1 23 x = (Is x 23 ∧ Outs x 23 0) := by kernel_rfl
theorem c24 (z0 z1 : Int) (x : Nat) : tt z0 z1 24 x = (Is x 24 ∧ Outs x 24 0) := by kernel_rfl
theorem c39 (z0 z1 : Int) (x : Nat) : tt z0 z1 39 x = (Is x 39 ∧ Outs x 39 0) := by kernel_rfl
theorem c40 (z0 z1 : Int) (x : Nat) : tt z0 z1 40 x = (Is x 40 ∧ Outs x 40 0) := by kernel_rfl
theorem c55 (z0 z1 : Int) (x : Nat) : tt z0 z1 55 x = (Is x 55 ∧ Outs x 55 0) := by kernel_rfl
theorem c56 (z0 z1 : Int) (x : Nat) : tt z0 z1 56 x = (Is x 56 ∧ Outs x 56 0) := by kernel_rfl
end Go.R3.LM

