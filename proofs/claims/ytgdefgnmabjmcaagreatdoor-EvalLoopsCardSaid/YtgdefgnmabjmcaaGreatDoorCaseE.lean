/- Part of a proof: texts LM4 of the engine and what is proved with it; nothing is assumed. -/
import Derived.Test.YtgdefgnmabjmcaaGreatDoorLaw
set_option linter.unusedVariables false
set_option linter.unusedSimpArgs false
set_option maxRecDepth 100000
namespace Go.R3.LM
open Go.Eng Go.R3
theorem c4 (z0 z1 : Int) (x : Nat) : tt z0 z1 4 x = (Is x 4 ∧ Outs x 4 0) := by kernel_rfl
theorem c11 (z0 z1 : Int) (x : Nat) : tt z0 z1 11 x = (Is x 11 ∧ Outs x 11 0) := by kernel_rfl
theorem c20 (z0 z1 : Int) (x : Nat) : tt z0 z1 20 x = (Is x 20 ∧ Outs x 20 0) := by kernel_rfl
theorem c27 (z0 z1 : Int) (x : Nat) : tt z0 z1 27 x = (Is x 27 ∧ Outs x 27 0) := by kernel_rfl
theorem c36 (z0 z1 : Int) (x : Nat) : tt z0 z1 36 x = (Is x 36 ∧ Outs x 36 0) := by kernel_rfl
theorem c43 (z0 z1 : Int) (x : Nat) : tt z0 z1 43 x = (Is x 43 ∧ Outs x 43 0) := by kernel_rfl
theorem c52 (z0 z1 : Int) (x : Nat) : tt z0 z1 52 x = (Is x 52 ∧ Outs x 52 0) := by kernel_rfl
theorem c59 (z0 z1 : Int) (x : Nat) : tt z0 z1 59 x = (Is x 59 ∧ Outs x 59 0) := by kernel_rfl
end Go.R3.LM

