/- Part of a proof: texts LK5 of the engine and what is proved with it; nothing is assumed. -/
import Derived.Test.YtmbhlmocojopaaaGreatDoorLaw
set_option linter.unusedVariables false
set_option linter.unusedSimpArgs false
set_option maxRecDepth 100000
namespace Go.R3.LK
open Go.Eng Go.R3
theorem c2k0 (z0 z1 x y : Int) (r : Nat) : tt z0 z1 x y 2 r 0 = Goal r 4 0 x y := by kernel_rfl
theorem c3k4 (z0 z1 x y : Int) (r : Nat) : tt z0 z1 x y 3 r 4 = Goal r 5 4 x y := by kernel_rfl
theorem c5k1 (z0 z1 x y : Int) (r : Nat) : tt z0 z1 x y 5 r 1 = Goal r 7 1 x y := by kernel_rfl
theorem c6k2 (z0 z1 x y : Int) (r : Nat) : tt z0 z1 x y 6 r 2 = Goal r 8 2 x y := by kernel_rfl
theorem c7k2 (z0 z1 x y : Int) (r : Nat) : tt z0 z1 x y 7 r 2 = Goal r 9 2 x y := by kernel_rfl
theorem c8k1 (z0 z1 x y : Int) (r : Nat) : tt z0 z1 x y 8 r 1 = Goal r 10 1 x y := by kernel_rfl
theorem c8k9 (z0 z1 x y : Int) (r : Nat) : tt z0 z1 x y 8 r 9 = Goal r 10 9 x y := by kernel_rfl
theorem c9k7 (z0 z1 x y : Int) (r : Nat) : tt z0 z1 x y 9 r 7 = Goal r 11 7 x y := by kernel_rfl
theorem c10k4 (z0 z1 x y : Int) (r : Nat) : tt z0 z1 x y 10 r 4 = Goal r 12 4 x y := by kernel_rfl
theorem c11k0 (z0 z1 x y : Int) (r : Nat) : tt z0 z1 x y 11 r 0 = Goal r 13 0 x y := by kernel_rfl
theorem c11k8 (z0 z1 x y : Int) (r : Nat) : tt z0 z1 x y 11 r 8 = Goal r 13 8 x y := by kernel_rfl
theorem c12k3 (z0 z1 x y : Int) (r : Nat) : tt z0 z1 x y 12 r 3 = Goal r 14 3 x y := by kernel_rfl
theorem c12k11 (z0 z1 x y : Int) (r : Nat) : tt z0 z1 x y 12 r 11 = Goal r 14 11 x y := by kernel_rfl
theorem c13k5 (z0 z1 x y : Int) (r : Nat) : tt z0 z1 x y 13 r 5 = Goal r 15 5 x y := by kernel_rfl
theorem c13k13 (z0 z1 x y : Int) (r : Nat) : tt z0 z1 x y 13 r 13 = Goal r 15 13 x y := by kernel_rfl
theorem c14k6 (z0 z1 x y : Int) (r : Nat) : tt z0 z1 x y 14 r 6 = Goal r 16 6 x y := by kernel_rfl
theorem c14k14 (z0 z1 x y : Int) (r : Nat) : tt z0 z1 x y 14 r 14 = Goal r 16 14 x y := by kernel_rfl
theorem c15k6 (z0 z1 x y : Int) (r : Nat) : tt z0 z1 x y 15 r 6 = Goal r 17 6 x y := by kernel_rfl
theorem c15k14 (z0 z1 x y : Int) (r : Nat) : tt z0 z1 x y 15 r 14 = Goal r 17 14 x y := by kernel_rfl
end Go.R3.LK

