/- Part of a proof: texts LM2 of the engine and what is proved with it; nothing is assumed. -/
import Derived.Test.YtgdefgnmabjmcaaGreatDoorLaw
set_option linter.unusedVariables false
set_option linter.unusedSimpArgs false
set_option maxRecDepth 100000
namespace Go.R3.LM
open Go.Eng Go.R3
theorem c2 (z0 z1 : Int) (x : Nat) : tt z0 z1 2 x = (Is x 2 ∧ Outs x 2 0) := by kernel_rfl
theorem c13 (z0 z1 : Int) (x : Nat) : tt z0 z1 13 x = (Is x 13 ∧ Outs x 13 0) := by kernel_rfl
theorem c18 (z0 z1 : Int) (x : Nat) : tt z0 z1 18 x = (Is x 18 ∧ Outs x 18 0) := by kernel_rfl
theorem c29 (z0 z1 : Int) (x : Nat) : tt z0 z1 29 x = (Is x 29 ∧ Outs x 29 0) := by kernel_rfl
theorem c34 (z0 z1 : Int) (x : Nat) : tt z0 z1 34 x = (Is x 34 ∧ Outs x 34 0) := by kernel_rfl
theorem c45 (z0 z1 : Int) (x : Nat) : tt z0 z1 45 x = (Is x 45 ∧ Outs x 45 0) := by kernel_rfl
theorem c50 (z0 z1 : Int) (x : Nat) : tt z0 z1 50 x = (Is x 50 ∧ Outs x 50 0) := by kernel_rfl
theorem c61 (z0 z1 : Int) (x : Nat) : tt z0 z1 61 x = (Is x 61 ∧ Outs x 61 0) := by kernel_rfl
end Go.R3.LM

