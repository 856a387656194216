/- Part of a proof: texts LK3 of the engine and what is proved with it; nothing is assumed. -/
import Derived.Test.YtmbhlmocojopaaaGreatDoorLaw
set_option linter.unusedVariables false
set_option linter.unusedSimpArgs false
set_option maxRecDepth 100000
namespace Go.R3.LK
open Go.Eng Go.R3
theorem c1k1 (z0 z1 x y : Int) (r : Nat) : tt z0 z1 x y 1 r 1 = Goal r 3 1 x y := by kernel_rfl
theorem c3k2 (z0 z1 x y : Int) (r : Nat) : tt z0 z1 x y 3 r 2 = Goal r 5 2 x y := by kernel_rfl
theorem c4k5 (z0 z1 x y : Int) (r : Nat) : tt z0 z1 x y 4 r 5 = Goal r 6 5 x y := by kernel_rfl
theorem c6k0 (z0 z1 x y : Int) (r : Nat) : tt z0 z1 x y 6 r 0 = Goal r 8 0 x y := by kernel_rfl
theorem c7k0 (z0 z1 x y : Int) (r : Nat) : tt z0 z1 x y 7 r 0 = Goal r 9 0 x y := by kernel_rfl
theorem c7k8 (z0 z1 x y : Int) (r : Nat) : tt z0 z1 x y 7 r 8 = Goal r 9 8 x y := by kernel_rfl
theorem c8k7 (z0 z1 x y : Int) (r : Nat) : tt z0 z1 x y 8 r 7 = Goal r 10 7 x y := by kernel_rfl
theorem c9k5 (z0 z1 x y : Int) (r : Nat) : tt z0 z1 x y 9 r 5 = Goal r 11 5 x y := by kernel_rfl
theorem c10k2 (z0 z1 x y : Int) (r : Nat) : tt z0 z1 x y 10 r 2 = Goal r 12 2 x y := by kernel_rfl
theorem c10k10 (z0 z1 x y : Int) (r : Nat) : tt z0 z1 x y 10 r 10 = Goal r 12 10 x y := by kernel_rfl
theorem c11k6 (z0 z1 x y : Int) (r : Nat) : tt z0 z1 x y 11 r 6 = Goal r 13 6 x y := by kernel_rfl
theorem c12k1 (z0 z1 x y : Int) (r : Nat) : tt z0 z1 x y 12 r 1 = Goal r 14 1 x y := by kernel_rfl
theorem c12k9 (z0 z1 x y : Int) (r : Nat) : tt z0 z1 x y 12 r 9 = Goal r 14 9 x y := by kernel_rfl
theorem c13k3 (z0 z1 x y : Int) (r : Nat) : tt z0 z1 x y 13 r 3 = Goal r 15 3 x y := by kernel_rfl
theorem c13k11 (z0 z1 x y : Int) (r : Nat) : tt z0 z1 x y 13 r 11 = Goal r 15 11 x y := by kernel_rfl
theorem c14k4 (z0 z1 x y : Int) (r : Nat) : tt z0 z1 x y 14 r 4 = Goal r 16 4 x y := by kernel_rfl
theorem c14k12 (z0 z1 x y : Int) (r : Nat) : tt z0 z1 x y 14 r 12 = Goal r 16 12 x y := by kernel_rfl
theorem c15k4 (z0 z1 x y : Int) (r : Nat) : tt z0 z1 x y 15 r 4 = Goal r 17 4 x y := by kernel_rfl
theorem c15k12 (z0 z1 x y : Int) (r : Nat) : tt z0 z1 x y 15 r 12 = Goal r 17 12 x y := by kernel_rfl
end Go.R3.LK

