/- Part of a proof: texts LM5 of the engine and what is proved with it; nothing is assumed. -/
import Derived.Test.YtgdefgnmabjmcaaGreatDoorLaw
set_option linter.unusedVariables false
set_option linter.unusedSimpArgs false
set_option maxRecDepth 100000
namespace Go.R3.LM
open Go.Eng Go.R3
theorem c5 (z0 z1 : Int) (x : Nat) : tt z0 z1 5 x = (Is x 5 ∧ Outs x 5 0) := by kernel_rfl
theorem c10 (z0 z1 : Int) (x : Nat) : tt z0 z1 10 x = (Is x 10 ∧ Outs x 10 0) := by kernel_rfl
theorem c21 (z0 z1 : Int) (x : Nat) : tt z0 z1 21 x = (Is x 21 ∧ Outs x 21 0) := by kernel_rfl
theorem c26 (z0 z1 : Int) (x : Nat) : tt z0 z1 26 x = (Is x 26 ∧ Outs x 26 0) := by kernel_rfl
theorem c37 (z0 z1 : Int) (x : Nat) : tt z0 z1 37 x = (Is x 37 ∧ Outs x 37 0) := by kernel_rfl
theorem c42 (z0 z1 : Int) (x : Nat) : tt z0 z1 42 x = (Is x 42 ∧ Outs x 42 0) := by kernel_rfl
theorem c53 (z0 z1 : Int) (x : Nat) : tt z0 z1 53 x = (Is x 53 ∧ Outs x 53 0) := by kernel_rfl
theorem c58 (z0 z1 : Int) (x : Nat) : tt z0 z1 58 x = (Is x 58 ∧ Outs x 58 0) := by kernel_rfl
end Go.R3.LM

