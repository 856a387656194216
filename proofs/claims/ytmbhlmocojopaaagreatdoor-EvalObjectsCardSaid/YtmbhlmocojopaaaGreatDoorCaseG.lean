/- Part of a proof: texts LK6 of the engine and what is proved with it; nothing is assumed. -/
import Derived.Test.YtmbhlmocojopaaaGreatDoorLaw
set_option linter.unusedVariables false
set_option linter.unusedSimpArgs false
set_option maxRecDepth 100000
namespace Go.R3.LK
open Go.Eng Go.R3
theorem c2k1 (z0 z1 x y : Int) (r : Nat) : tt z0 z1 x y 2 r 1 = Goal r 4 1 x y := by kernel_rfl
theorem c4k0 (z0 z1 x y : Int) (r : Nat) : tt z0 z1 x y 4 r 0 = Goal r 6 0 x y := by kernel_rfl
theorem c5k2 (z0 z1 x y : Int) (r : Nat) : tt z0 z1 x y 5 r 2 = Goal r 7 2 x y := by kernel_rfl
theorem c6k3 (z0 z1 x y : Int) (r : Nat) : tt z0 z1 x y 6 r 3 = Goal r 8 3 x y := by kernel_rfl
theorem c7k3 (z0 z1 x y : Int) (r : Nat) : tt z0 z1 x y 7 r 3 = Goal r 9 3 x y := by kernel_rfl
theorem c8k2 (z0 z1 x y : Int) (r : Nat) : tt z0 z1 x y 8 r 2 = Goal r 10 2 x y := by kernel_rfl
theorem c9k0 (z0 z1 x y : Int) (r : Nat) : tt z0 z1 x y 9 r 0 = Goal r 11 0 x y := by kernel_rfl
theorem c9k8 (z0 z1 x y : Int) (r : Nat) : tt z0 z1 x y 9 r 8 = Goal r 11 8 x y := by kernel_rfl
theorem c10k5 (z0 z1 x y : Int) (r : Nat) : tt z0 z1 x y 10 r 5 = Goal r 12 5 x y := by kernel_rfl
theorem c11k1 (z0 z1 x y : Int) (r : Nat) : tt z0 z1 x y 11 r 1 = Goal r 13 1 x y := by kernel_rfl
theorem c11k9 (z0 z1 x y : Int) (r : Nat) : tt z0 z1 x y 11 r 9 = Goal r 13 9 x y := by kernel_rfl
theorem c12k4 (z0 z1 x y : Int) (r : Nat) : tt z0 z1 x y 12 r 4 = Goal r 14 4 x y := by kernel_rfl
theorem c12k12 (z0 z1 x y : Int) (r : Nat) : tt z0 z1 x y 12 r 12 = Goal r 14 12 x y := by kernel_rfl
theorem c13k6 (z0 z1 x y : Int) (r : Nat) : tt z0 z1 x y 13 r 6 = Goal r 15 6 x y := by kernel_rfl
theorem c13k14 (z0 z1 x y : Int) (r : Nat) : tt z0 z1 x y 13 r 14 = Goal r 15 14 x y := by kernel_rfl
theorem c14k7 (z0 z1 x y : Int) (r : Nat) : tt z0 z1 x y 14 r 7 = Goal r 16 7 x y := by kernel_rfl
theorem c14k15 (z0 z1 x y : Int) (r : Nat) : tt z0 z1 x y 14 r 15 = Goal r 16 15 x y := by kernel_rfl
theorem c15k7 (z0 z1 x y : Int) (r : Nat) : tt z0 z1 x y 15 r 7 = Goal r 17 7 x y := by kernel_rfl
theorem c15k15 (z0 z1 x y : Int) (r : Nat) : tt z0 z1 x y 15 r 15 = Goal r 17 15 x y := by kernel_rfl
end Go.R3.LK

