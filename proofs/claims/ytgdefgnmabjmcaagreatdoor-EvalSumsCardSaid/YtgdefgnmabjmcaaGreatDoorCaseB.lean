/- Part of a proof: texts LI1 of the engine and what is proved with it; nothing is assumed. -/
import Derived.Test.YtgdefgnmabjmcaaGreatDoorLaw
set_option linter.unusedVariables false
set_option linter.unusedSimpArgs false
set_option maxRecDepth 100000
namespace Go.R3.LI
open Go.Eng Go.R3
theorem c0p (z0 x : Int) (m : Nat) : tt true true false true z0 x (.ofNat (.succ m)) 0 = (Same (wrapI .i64 (iadd x (.ofNat (.succ m))))) := by kernel_rfl
theorem c1n (z0 x : Int) (m : Nat) : tt true true false true z0 x (.negSucc m) 1 = (Same (wrapI .i64 (iadd x (Int.neg (.negSucc m))))) := by kernel_rfl
theorem c3z (z0 x : Int) (m : Nat) : tt true true false true z0 x (.ofNat 0) 3 = (True) := by kernel_rfl
theorem c4p (z0 x : Int) (m : Nat) : tt true true false true z0 x (.ofNat (.succ m)) 4 = (Same (Int.tmod x (.ofNat (.succ m)))) := by kernel_rfl
theorem c5zg (z0 x : Int) (m : Nat) : tt false false false true z0 x (.ofNat 0) 5 = (B2.ev .lss (I x) (I (.ofNat 0)) = some (.bool false) ∧ Ask false false false true x (.ofNat 0)) := by kernel_rfl
theorem c5nl (z0 x : Int) (m : Nat) : tt true true false true z0 x (.negSucc m) 5 = (B2.ev .lss (I x) (I (.negSucc m)) = some (.bool true) ∧ Ask true true false true x (.negSucc m)) := by kernel_rfl
theorem c6ze (z0 x : Int) (m : Nat) : tt false true true false z0 x (.ofNat 0) 6 = (B2.ev .leq (I x) (I (.ofNat 0)) = some (.bool true) ∧ Ask false true true false x (.ofNat 0)) := by kernel_rfl
theorem c6pg (z0 x : Int) (m : Nat) : tt false false false true z0 x (.ofNat (.succ m)) 6 = (B2.ev .leq (I x) (I (.ofNat (.succ m))) = some (.bool false) ∧ Ask false false false true x (.ofNat (.succ m))) := by kernel_rfl
theorem c7zl (z0 x : Int) (m : Nat) : tt true true false true z0 x (.ofNat 0) 7 = (eqV (.agg [.int, .ptr]) false (.agg [I x, .nilp]) (.agg [I (.ofNat 0), .nilp]) = some (.bool false) ∧ Ask true true false true x (.ofNat 0)) := by kernel_rfl
theorem c7pe (z0 x : Int) (m : Nat) : tt false true true false z0 x (.ofNat (.succ m)) 7 = (eqV (.agg [.int, .ptr]) false (.agg [I x, .nilp]) (.agg [I (.ofNat (.succ m)), .nilp]) = some (.bool true) ∧ Ask false true true false x (.ofNat (.succ m))) := by kernel_rfl
theorem c7ng (z0 x : Int) (m : Nat) : tt false false false true z0 x (.negSucc m) 7 = (eqV (.agg [.int, .ptr]) false (.agg [I x, .nilp]) (.agg [I (.negSucc m), .nilp]) = some (.bool false) ∧ Ask false false false true x (.negSucc m)) := by kernel_rfl
theorem c8pl (z0 x : Int) (m : Nat) : tt true true false true z0 x (.ofNat (.succ m)) 8 = (eqV (.agg [.int, .ptr]) true (.agg [I x, .nilp]) (.agg [I (.ofNat (.succ m)), .nilp]) = some (.bool true) ∧ Ask true true false true x (.ofNat (.succ m))) := by kernel_rfl
theorem c8ne (z0 x : Int) (m : Nat) : tt false true true false z0 x (.negSucc m) 8 = (eqV (.agg [.int, .ptr]) true (.agg [I x, .nilp]) (.agg [I (.negSucc m), .nilp]) = some (.bool false) ∧ Ask false true true false x (.negSucc m)) := by kernel_rfl
end Go.R3.LI

