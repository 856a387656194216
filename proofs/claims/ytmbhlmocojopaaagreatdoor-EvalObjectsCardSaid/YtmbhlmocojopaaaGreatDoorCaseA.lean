/- Part of a proof: texts LK0 of the engine and what is proved with it; nothing is assumed. -/
import Derived.Test.YtmbhlmocojopaaaGreatDoorLaw
set_option linter.unusedVariables false
set_option linter.unusedSimpArgs false
set_option maxRecDepth 100000
namespace Go.R3.LK
open Go.Eng Go.R3
theorem c0k0 (z0 z1 x y : Int) (r : Nat) : tt z0 z1 x y 0 r 0 = Goal r 2 0 x y := by kernel_rfl
theorem c2k3 (z0 z1 x y : Int) (r : Nat) : tt z0 z1 x y 2 r 3 = Goal r 4 3 x y := by kernel_rfl
theorem c4k2 (z0 z1 x y : Int) (r : Nat) : tt z0 z1 x y 4 r 2 = Goal r 6 2 x y := by kernel_rfl
theorem c5k4 (z0 z1 x y : Int) (r : Nat) : tt z0 z1 x y 5 r 4 = Goal r 7 4 x y := by kernel_rfl
theorem c6k5 (z0 z1 x y : Int) (r : Nat) : tt z0 z1 x y 6 r 5 = Goal r 8 5 x y := by kernel_rfl
theorem c7k5 (z0 z1 x y : Int) (r : Nat) : tt z0 z1 x y 7 r 5 = Goal r 9 5 x y := by kernel_rfl
theorem c8k4 (z0 z1 x y : Int) (r : Nat) : tt z0 z1 x y 8 r 4 = Goal r 10 4 x y := by kernel_rfl
theorem c9k2 (z0 z1 x y : Int) (r : Nat) : tt z0 z1 x y 9 r 2 = Goal r 11 2 x y := by kernel_rfl
theorem c9k10 (z0 z1 x y : Int) (r : Nat) : tt z0 z1 x y 9 r 10 = Goal r 11 10 x y := by kernel_rfl
theorem c10k7 (z0 z1 x y : Int) (r : Nat) : tt z0 z1 x y 10 r 7 = Goal r 12 7 x y := by kernel_rfl
theorem c11k3 (z0 z1 x y : Int) (r : Nat) : tt z0 z1 x y 11 r 3 = Goal r 13 3 x y := by kernel_rfl
theorem c11k11 (z0 z1 x y : Int) (r : Nat) : tt z0 z1 x y 11 r 11 = Goal r 13 11 x y := by kernel_rfl
theorem c12k6 (z0 z1 x y : Int) (r : Nat) : tt z0 z1 x y 12 r 6 = Goal r 14 6 x y := by kernel_rfl
theorem c13k0 (z0 z1 x y : Int) (r : Nat) : tt z0 z1 x y 13 r 0 = Goal r 15 0 x y := by kernel_rfl
theorem c13k8 (z0 z1 x y : Int) (r : Nat) : tt z0 z1 x y 13 r 8 = Goal r 15 8 x y := by kernel_rfl
theorem c14k1 (z0 z1 x y : Int) (r : Nat) : tt z0 z1 x y 14 r 1 = Goal r 16 1 x y := by kernel_rfl
theorem c14k9 (z0 z1 x y : Int) (r : Nat) : tt z0 z1 x y 14 r 9 = Goal r 16 9 x y := by kernel_rfl
theorem c15k1 (z0 z1 x y : Int) (r : Nat) : tt z0 z1 x y 15 r 1 = Goal r 17 1 x y := by kernel_rfl
theorem c15k9 (z0 z1 x y : Int) (r : Nat) : tt z0 z1 x y 15 r 9 = Goal r 17 9 x y := by kernel_rfl
end Go.R3.LK

