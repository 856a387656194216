/- Part of a proof: texts LI3 of the engine and what is proved with it; nothing is assumed. -/
import Derived.Test.YtgdefgnmabjmcaaGreatDoorLaw
set_option linter.unusedVariables false
set_option linter.unusedSimpArgs false
set_option maxRecDepth 100000
namespace Go.R3.LI
open Go.Eng Go.R3
theorem c1z (z0 x : Int) (m : Nat) : tt true true false true z0 x (.ofNat 0) 1 = (Same (wrapI .i64 (iadd x (Int.neg (.ofNat 0))))) := by kernel_rfl
theorem c2p (z0 x : Int) (m : Nat) : tt true true false true z0 x (.ofNat (.succ m)) 2 = (Same (wrapI .i64 (Int.mul x (.ofNat (.succ m))))) := by kernel_rfl
theorem c3n (z0 x : Int) (m : Nat) : tt true true false true z0 x (.negSucc m) 3 = (Same (wrapI .i64 (Int.tdiv x (.negSucc m)))) := by kernel_rfl
theorem c5zl (z0 x : Int) (m : Nat) : tt true true false true z0 x (.ofNat 0) 5 = (B2.ev .lss (I x) (I (.ofNat 0)) = some (.bool true) ∧ Ask true true false true x (.ofNat 0)) := by kernel_rfl
theorem c5pe (z0 x : Int) (m : Nat) : tt false true true false z0 x (.ofNat (.succ m)) 5 = (B2.ev .lss (I x) (I (.ofNat (.succ m))) = some (.bool false) ∧ Ask false true true false x (.ofNat (.succ m))) := by kernel_rfl
theorem c5ng (z0 x : Int) (m : Nat) : tt false false false true z0 x (.negSucc m) 5 = (B2.ev .lss (I x) (I (.negSucc m)) = some (.bool false) ∧ Ask false false false true x (.negSucc m)) := by kernel_rfl
theorem c6pl (z0 x : Int) (m : Nat) : tt true true false true z0 x (.ofNat (.succ m)) 6 = (B2.ev .leq (I x) (I (.ofNat (.succ m))) = some (.bool true) ∧ Ask true true false true x (.ofNat (.succ m))) := by kernel_rfl
theorem c6ne (z0 x : Int) (m : Nat) : tt false true true false z0 x (.negSucc m) 6 = (B2.ev .leq (I x) (I (.negSucc m)) = some (.bool true) ∧ Ask false true true false x (.negSucc m)) := by kernel_rfl
theorem c7zg (z0 x : Int) (m : Nat) : tt false false false true z0 x (.ofNat 0) 7 = (eqV (.agg [.int, .ptr]) false (.agg [I x, .nilp]) (.agg [I (.ofNat 0), .nilp]) = some (.bool false) ∧ Ask false false false true x (.ofNat 0)) := by kernel_rfl
theorem c7nl (z0 x : Int) (m : Nat) : tt true true false true z0 x (.negSucc m) 7 = (eqV (.agg [.int, .ptr]) false (.agg [I x, .nilp]) (.agg [I (.negSucc m), .nilp]) = some (.bool false) ∧ Ask true true false true x (.negSucc m)) := by kernel_rfl
theorem c8ze (z0 x : Int) (m : Nat) : tt false true true false z0 x (.ofNat 0) 8 = (eqV (.agg [.int, .ptr]) true (.agg [I x, .nilp]) (.agg [I (.ofNat 0), .nilp]) = some (.bool false) ∧ Ask false true true false x (.ofNat 0)) := by kernel_rfl
theorem c8pg (z0 x : Int) (m : Nat) : tt false false false true z0 x (.ofNat (.succ m)) 8 = (eqV (.agg [.int, .ptr]) true (.agg [I x, .nilp]) (.agg [I (.ofNat (.succ m)), .nilp]) = some (.bool true) ∧ Ask false false false true x (.ofNat (.succ m))) := by kernel_rfl
end Go.R3.LI

