/- Part of a proof: texts LK4 of the engine and what is proved with it; nothing is assumed. -/
import Derived.Test.YtmbhlmocojopaaaGreatDoorLaw
set_option linter.unusedVariables false
set_option linter.unusedSimpArgs false
set_option maxRecDepth 100000
namespace Go.R3.LK
open Go.Eng Go.R3
theorem c1k2 (z0 z1 x y : Int) (r : Nat) : tt z0 z1 x y 1 r 2 = Goal r 3 2 x y := by kernel_rfl
theorem c3k3 (z0 z1 x y : Int) (r : Nat) : tt z0 z1 x y 3 r 3 = Goal r 5 3 x y := by kernel_rfl
theorem c5k0 (z0 z1 x y : Int) (r : Nat) : tt z0 z1 x y 5 r 0 = Goal r 7 0 x y := by kernel_rfl
theorem c6k1 (z0 z1 x y : Int) (r : Nat) : tt z0 z1 x y 6 r 1 = Goal r 8 1 x y := by kernel_rfl
theorem c7k1 (z0 z1 x y : Int) (r : Nat) : tt z0 z1 x y 7 r 1 = Goal r 9 1 x y := by kernel_rfl
theorem c8k0 (z0 z1 x y : Int) (r : Nat) : tt z0 z1 x y 8 r 0 = Goal r 10 0 x y := by kernel_rfl
theorem c8k8 (z0 z1 x y : Int) (r : Nat) : tt z0 z1 x y 8 r 8 = Goal r 10 8 x y := by kernel_rfl
theorem c9k6 (z0 z1 x y : Int) (r : Nat) : tt z0 z1 x y 9 r 6 = Goal r 11 6 x y := by kernel_rfl
theorem c10k3 (z0 z1 x y : Int) (r : Nat) : tt z0 z1 x y 10 r 3 = Goal r 12 3 x y := by kernel_rfl
theorem c10k11 (z0 z1 x y : Int) (r : Nat) : tt z0 z1 x y 10 r 11 = Goal r 12 11 x y := by kernel_rfl
theorem c11k7 (z0 z1 x y : Int) (r : Nat) : tt z0 z1 x y 11 r 7 = Goal r 13 7 x y := by kernel_rfl
theorem c12k2 (z0 z1 x y : Int) (r : Nat) : tt z0 z1 x y 12 r 2 = Goal r 14 2 x y := by kernel_rfl
theorem c12k10 (z0 z1 x y : Int) (r : Nat) : tt z0 z1 x y 12 r 10 = Goal r 14 10 x y := by kernel_rfl
theorem c13k4 (z0 z1 x y : Int) (r : Nat) : tt z0 z1 x y 13 r 4 = Goal r 15 4 x y := by kernel_rfl
theorem c13k12 (z0 z1 x y : Int) (r : Nat) : tt z0 z1 x y 13 r 12 = Goal r 15 12 x y := by kernel_rfl
theorem c14k5 (z0 z1 x y : Int) (r : Nat) : tt z0 z1 x y 14 r 5 = Goal r 16 5 x y := by kernel_rfl
theorem c14k13 (z0 z1 x y : Int) (r : Nat) : tt z0 z1 x y 14 r 13 = Goal r 16 13 x y := by kernel_rfl
theorem c15k5 (z0 z1 x y : Int) (r : Nat) : tt z0 z1 x y 15 r 5 = Goal r 17 5 x y := by kernel_rfl
theorem c15k13 (z0 z1 x y : Int) (r : Nat) : tt z0 z1 x y 15 r 13 = Goal r 17 13 x y := by kernel_rfl
end Go.R3.LK

