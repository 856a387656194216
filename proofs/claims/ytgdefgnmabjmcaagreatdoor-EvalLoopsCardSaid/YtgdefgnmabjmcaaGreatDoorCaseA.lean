/- Part of a proof: texts LM0 of the engine and what is proved with it; nothing is assumed. -/
import Derived.Test.YtgdefgnmabjmcaaGreatDoorLaw
set_option linter.unusedVariables false
set_option linter.unusedSimpArgs false
set_option maxRecDepth 100000
namespace Go.R3.LM
open Go.Eng Go.R3
theorem c0 (z0 z1 : Int) (x : Nat) : tt z0 z1 0 x = (Is x 0 ∧ Outs x 0 0) := by kernel_rfl
theorem c15 (z0 z1 : Int) (x : Nat) : tt z0 z1 15 x = (Is x 15 ∧ Outs x 15 0) := by kernel_rfl
theorem c16 (z0 z1 : Int) (x : Nat) : tt z0 z1 16 x = (Is x 16 ∧ Outs x 16 0) := by kernel_rfl
theorem c31 (z0 z1 : Int) (x : Nat) : tt z0 z1 31 x = (Is x 31 ∧ Outs x 31 0) := by kernel_rfl
theorem c32 (z0 z1 : Int) (x : Nat) : tt z0 z1 32 x = (Is x 32 ∧ Outs x 32 0) := by kernel_rfl
theorem c47 (z0 z1 : Int) (x : Nat) : tt z0 z1 47 x = (Is x 47 ∧ Outs x 47 0) := by kernel_rfl
theorem c48 (z0 z1 : Int) (x : Nat) : tt z0 z1 48 x = (Is x 48 ∧ Outs x 48 0) := by kernel_rfl
theorem c63 (z0 z1 : Int) (x : Nat) : tt z0 z1 63 x = (Is x 63 ∧ Outs x 63 0) := by kernel_rfl
end Go.R3.LM

