/- Part of a proof: texts LK1 of the engine and what is proved with it; nothing is assumed. -/
import Derived.Test.YtmbhlmocojopaaaGreatDoorLaw
set_option linter.unusedVariables false
set_option linter.unusedSimpArgs false
set_option maxRecDepth 100000
namespace Go.R3.LK
open Go.Eng Go.R3
theorem c0k1 (z0 z1 x y : Int) (r : Nat) : tt z0 z1 x y 0 r 1 = Goal r 2 1 x y := by kernel_rfl
theorem c3k0 (z0 z1 x y : Int) (r : Nat) : tt z0 z1 x y 3 r 0 = Goal r 5 0 x y := by kernel_rfl
theorem c4k3 (z0 z1 x y : Int) (r : Nat) : tt z0 z1 x y 4 r 3 = Goal r 6 3 x y := by kernel_rfl
theorem c5k5 (z0 z1 x y : Int) (r : Nat) : tt z0 z1 x y 5 r 5 = Goal r 7 5 x y := by kernel_rfl
theorem c6k6 (z0 z1 x y : Int) (r : Nat) : tt z0 z1 x y 6 r 6 = Goal r 8 6 x y := by kernel_rfl
theorem c7k6 (z0 z1 x y : Int) (r : Nat) : tt z0 z1 x y 7 r 6 = Goal r 9 6 x y := by kernel_rfl
theorem c8k5 (z0 z1 x y : Int) (r : Nat) : tt z0 z1 x y 8 r 5 = Goal r 10 5 x y := by kernel_rfl
theorem c9k3 (z0 z1 x y : Int) (r : Nat) : tt z0 z1 x y 9 r 3 = Goal r 11 3 x y := by kernel_rfl
theorem c10k0 (z0 z1 x y : Int) (r : Nat) : tt z0 z1 x y 10 r 0 = Goal r 12 0 x y := by kernel_rfl
theorem c10k8 (z0 z1 x y : Int) (r : Nat) : tt z0 z1 x y 10 r 8 = Goal r 12 8 x y := by kernel_rfl
theorem c11k4 (z0 z1 x y : Int) (r : Nat) : tt z0 z1 x y 11 r 4 = Goal r 13 4 x y := by kernel_rfl
theorem c11k12 (z0 z1 x y : Int) (r : Nat) : tt z0 z1 x y 11 r 12 = Goal r 13 12 x y := by kernel_rfl
theorem c12k7 (z0 z1 x y : Int) (r : Nat) : tt z0 z1 x y 12 r 7 = Goal r 14 7 x y := by kernel_rfl
theorem c13k1 (z0 z1 x y : Int) (r : Nat) : tt z0 z1 x y 13 r 1 = Goal r 15 1 x y := by kernel_rfl
theorem c13k9 (z0 z1 x y : Int) (r : Nat) : tt z0 z1 x y 13 r 9 = Goal r 15 9 x y := by kernel_rfl
theorem c14k2 (z0 z1 x y : Int) (r : Nat) : tt z0 z1 x y 14 r 2 = Goal r 16 2 x y := by kernel_rfl
theorem c14k10 (z0 z1 x y : Int) (r : Nat) : tt z0 z1 x y 14 r 10 = Goal r 16 10 x y := by kernel_rfl
theorem c15k2 (z0 z1 x y : Int) (r : Nat) : tt z0 z1 x y 15 r 2 = Goal r 17 2 x y := by kernel_rfl
theorem c15k10 (z0 z1 x y : Int) (r : Nat) : tt z0 z1 x y 15 r 10 = Goal r 17 10 x y := by kernel_rfl
end Go.R3.LK

