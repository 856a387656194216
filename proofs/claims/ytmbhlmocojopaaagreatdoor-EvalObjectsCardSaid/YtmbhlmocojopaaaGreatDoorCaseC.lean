/- Part of a proof: texts LK2 of the engine and what is proved with it; nothing is assumed. -/
import Derived.Test.YtmbhlmocojopaaaGreatDoorLaw
set_option linter.unusedVariables false
set_option linter.unusedSimpArgs false
set_option maxRecDepth 100000
namespace Go.R3.LK
open Go.Eng Go.R3
theorem c1k0 (z0 z1 x y : Int) (r : Nat) : tt z0 z1 x y 1 r 0 = Goal r 3 0 x y := by kernel_rfl
theorem c3k1 (z0 z1 x y : Int) (r : Nat) : tt z0 z1 x y 3 r 1 = Goal r 5 1 x y := by kernel_rfl
theorem c4k4 (z0 z1 x y : Int) (r : Nat) : tt z0 z1 x y 4 r 4 = Goal r 6 4 x y := by kernel_rfl
theorem c5k6 (z0 z1 x y : Int) (r : Nat) : tt z0 z1 x y 5 r 6 = Goal r 7 6 x y := by kernel_rfl
theorem c6k7 (z0 z1 x y : Int) (r : Nat) : tt z0 z1 x y 6 r 7 = Goal r 8 7 x y := by kernel_rfl
theorem c7k7 (z0 z1 x y : Int) (r : Nat) : tt z0 z1 x y 7 r 7 = Goal r 9 7 x y := by kernel_rfl
theorem c8k6 (z0 z1 x y : Int) (r : Nat) : tt z0 z1 x y 8 r 6 = Goal r 10 6 x y := by kernel_rfl
theorem c9k4 (z0 z1 x y : Int) (r : Nat) : tt z0 z1 x y 9 r 4 = Goal r 11 4 x y := by kernel_rfl
theorem c10k1 (z0 z1 x y : Int) (r : Nat) : tt z0 z1 x y 10 r 1 = Goal r 12 1 x y := by kernel_rfl
theorem c10k9 (z0 z1 x y : Int) (r : Nat) : tt z0 z1 x y 10 r 9 = Goal r 12 9 x y := by kernel_rfl
theorem c11k5 (z0 z1 x y : Int) (r : Nat) : tt z0 z1 x y 11 r 5 = Goal r 13 5 x y := by kernel_rfl
theorem c12k0 (z0 z1 x y : Int) (r : Nat) : tt z0 z1 x y 12 r 0 = Goal r 14 0 x y := by kernel_rfl
theorem c12k8 (z0 z1 x y : Int) (r : Nat) : tt z0 z1 x y 12 r 8 = Goal r 14 8 x y := by kernel_rfl
theorem c13k2 (z0 z1 x y : Int) (r : Nat) : tt z0 z1 x y 13 r 2 = Goal r 15 2 x y := by kernel_rfl
theorem c13k10 (z0 z1 x y : Int) (r : Nat) : tt z0 z1 x y 13 r 10 = Goal r 15 10 x y := by kernel_rfl
theorem c14k3 (z0 z1 x y : Int) (r : Nat) : tt z0 z1 x y 14 r 3 = Goal r 16 3 x y := by kernel_rfl
theorem c14k11 (z0 z1 x y : Int) (r : Nat) : tt z0 z1 x y 14 r 11 = Goal r 16 11 x y := by kernel_rfl
theorem c15k3 (z0 z1 x y : Int) (r : Nat) : tt z0 z1 x y 15 r 3 = Goal r 17 3 x y := by kernel_rfl
theorem c15k11 (z0 z1 x y : Int) (r : Nat) : tt z0 z1 x y 15 r 11 = Goal r 17 11 x y := by kernel_rfl
end Go.R3.LK

