/- Part of a proof: texts LM3 of the engine and what is proved with it; nothing is assumed. -/
import Derived.Test.YtgdefgnmabjmcaaGreatDoorLaw
set_option linter.unusedVariables false
set_option linter.unusedSimpArgs false
set_option maxRecDepth 100000
namespace Go.R3.LM
open Go.Eng Go.R3
theorem c3 (z0 z1 : Int) (x : Nat) : tt z0 z1 3 x = (Is x 3 ∧ Outs x 3 0) := by kernel_rfl
theorem c12 (z0 z1 : Int) (x : Nat) : tt z0 z1 12 x = (Is x 12 ∧ Outs x 12 0) := by kernel_rfl
theorem c19 (z0 z1 : Int) (x : Nat) : tt z0 z1 19 x = (Is x 19 ∧ Outs x 19 0) := by kernel_rfl
theorem c28 (z0 z1 : Int) (x : Nat) : tt z0 z1 28 x = (Is x 28 ∧ Outs x 28 0) := by kernel_rfl
theorem c35 (z0 z1 : Int) (x : Nat) : tt z0 z1 35 x = (Is x 35 ∧ Outs x 35 0) := by kernel_rfl
theorem c44 (z0 z1 : Int) (x : Nat) : tt z0 z1 44 x = (Is x 44 ∧ Outs x 44 0) := by kernel_rfl
theorem c51 (z0 z1 : Int) (x : Nat) : tt z0 z1 51 x = (Is x 51 ∧ Outs x 51 0) := by kernel_rfl
theorem c60 (z0 z1 : Int) (x : Nat) : tt z0 z1 60 x = (Is x 60 ∧ Outs x 60 0) := by kernel_rfl
end Go.R3.LM

