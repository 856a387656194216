/- Part of a proof: texts LJ1 of the engine and what is proved with it; nothing is assumed. -/
import Derived.Test.YtgdefgnmabjmcaaGreatDoorLaw
set_option linter.unusedVariables false
set_option linter.unusedSimpArgs false
set_option maxRecDepth 100000
namespace Go.R3.LJ
open Go.Eng Go.R3
theorem czm (x : Int) (m : Nat) : tt false true true x (.ofNat 0) = Rest x (.ofNat 3) false true true := by kernel_rfl
theorem cpz (x : Int) (m : Nat) : tt true true true x (.ofNat (.succ m)) = Rest x (.ofNat (.succ m)) true true true := by kernel_rfl
theorem cpp (x : Int) (m : Nat) : tt false false false x (.ofNat (.succ m)) = Rest x (.ofNat (.succ m)) false false false := by kernel_rfl
theorem cnm (x : Int) (m : Nat) : tt false true true x (.negSucc m) = Rest x (.negSucc m) false true true := by kernel_rfl
end Go.R3.LJ

