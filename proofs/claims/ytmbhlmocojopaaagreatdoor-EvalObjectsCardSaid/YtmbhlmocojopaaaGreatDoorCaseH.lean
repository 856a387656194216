/- Part of a proof: texts LK7 of the engine and what is proved with it; nothing is assumed. -/
import Derived.Test.YtmbhlmocojopaaaGreatDoorLaw
set_option linter.unusedVariables false
set_option linter.unusedSimpArgs false
set_option maxRecDepth 100000
namespace Go.R3.LK
open Go.Eng Go.R3
theorem c2k2 (z0 z1 x y : Int) (r : Nat) : tt z0 z1 x y 2 r 2 = Goal r 4 2 x y := by kernel_rfl
theorem c4k1 (z0 z1 x y : Int) (r : Nat) : tt z0 z1 x y 4 r 1 = Goal r 6 1 x y := by kernel_rfl
theorem c5k3 (z0 z1 x y : Int) (r : Nat) : tt z0 z1 x y 5 r 3 = Goal r 7 3 x y := by kernel_rfl
theorem c6k4 (z0 z1 x y : Int) (r : Nat) : tt z0 z1 x y 6 r 4 = Goal r 8 4 x y := by kernel_rfl
theorem c7k4 (z0 z1 x y : Int) (r : Nat) : tt z0 z1 x y 7 r 4 = Goal r 9 4 x y := by kernel_rfl
theorem c8k3 (z0 z1 x y : Int) (r : Nat) : tt z0 z1 x y 8 r 3 = Goal r 10 3 x y := by kernel_rfl
theorem c9k1 (z0 z1 x y : Int) (r : Nat) : tt z0 z1 x y 9 r 1 = Goal r 11 1 x y := by kernel_rfl
theorem c9k9 (z0 z1 x y : Int) (r : Nat) : tt z0 z1 x y 9 r 9 = Goal r 11 9 x y := by kernel_rfl
theorem c10k6 (z0 z1 x y : Int) (r : Nat) : tt z0 z1 x y 10 r 6 = Goal r 12 6 x y := by kernel_rfl
theorem c11k2 (z0 z1 x y : Int) (r : Nat) : tt z0 z1 x y 11 r 2 = Goal r 13 2 x y := by kernel_rfl
theorem c11k10 (z0 z1 x y : Int) (r : Nat) : tt z0 z1 x y 11 r 10 = Goal r 13 10 x y := by kernel_rfl
theorem c12k5 (z0 z1 x y : Int) (r : Nat) : tt z0 z1 x y 12 r 5 = Goal r 14 5 x y := by kernel_rfl
theorem c12k13 (z0 z1 x y : Int) (r : Nat) : tt z0 z1 x y 12 r 13 = Goal r 14 13 x y := by kernel_rfl
theorem c13k7 (z0 z1 x y : Int) (r : Nat) : tt z0 z1 x y 13 r 7 = Goal r 15 7 x y := by kernel_rfl
theorem c14k0 (z0 z1 x y : Int) (r : Nat) : tt z0 z1 x y 14 r 0 = Goal r 16 0 x y := by kernel_rfl
theorem c14k8 (z0 z1 x y : Int) (r : Nat) : tt z0 z1 x y 14 r 8 = Goal r 16 8 x y := by kernel_rfl
theorem c15k0 (z0 z1 x y : Int) (r : Nat) : tt z0 z1 x y 15 r 0 = Goal r 17 0 x y := by kernel_rfl
theorem c15k8 (z0 z1 x y : Int) (r : Nat) : tt z0 z1 x y 15 r 8 = Goal r 17 8 x y := by kernel_rfl
theorem c15k16 (z0 z1 x y : Int) (r : Nat) : tt z0 z1 x y 15 r 16 = Goal r 17 16 x y := by kernel_rfl
end Go.R3.LK

