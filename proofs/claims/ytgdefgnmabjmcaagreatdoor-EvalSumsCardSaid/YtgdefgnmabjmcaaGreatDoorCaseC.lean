/- Part of a proof: texts LI2 of the engine and what is proved with it; nothing is assumed. -/
import Derived.Test.YtgdefgnmabjmcaaGreatDoorLaw
set_option linter.unusedVariables false
set_option linter.unusedSimpArgs false
set_option maxRecDepth 100000
namespace Go.R3.LI
open Go.Eng Go.R3
theorem c0n (z0 x : Int) (m : Nat) : tt true true false true z0 x (.negSucc m) 0 = (Same (wrapI .i64 (iadd x (.negSucc m)))) := by kernel_rfl
theorem c2z (z0 x : Int) (m : Nat) : tt true true false true z0 x (.ofNat 0) 2 = (Same (wrapI .i64 (Int.mul x (.ofNat 0)))) := by kernel_rfl
theorem c3p (z0 x : Int) (m : Nat) : tt true true false true z0 x (.ofNat (.succ m)) 3 = (Same (wrapI .i64 (Int.tdiv x (.ofNat (.succ m))))) := by kernel_rfl
theorem c4n (z0 x : Int) (m : Nat) : tt true true false true z0 x (.negSucc m) 4 = (Same (Int.tmod x (.negSucc m))) := by kernel_rfl
theorem c5pl (z0 x : Int) (m : Nat) : tt true true false true z0 x (.ofNat (.succ m)) 5 = (B2.ev .lss (I x) (I (.ofNat (.succ m))) = some (.bool true) ∧ Ask true true false true x (.ofNat (.succ m))) := by kernel_rfl
theorem c5ne (z0 x : Int) (m : Nat) : tt false true true false z0 x (.negSucc m) 5 = (B2.ev .lss (I x) (I (.negSucc m)) = some (.bool false) ∧ Ask false true true false x (.negSucc m)) := by kernel_rfl
theorem c6zg (z0 x : Int) (m : Nat) : tt false false false true z0 x (.ofNat 0) 6 = (B2.ev .leq (I x) (I (.ofNat 0)) = some (.bool false) ∧ Ask false false false true x (.ofNat 0)) := by kernel_rfl
theorem c6nl (z0 x : Int) (m : Nat) : tt true true false true z0 x (.negSucc m) 6 = (B2.ev .leq (I x) (I (.negSucc m)) = some (.bool true) ∧ Ask true true false true x (.negSucc m)) := by kernel_rfl
theorem c7ze (z0 x : Int) (m : Nat) : tt false true true false z0 x (.ofNat 0) 7 = (eqV (.agg [.int, .ptr]) false (.agg [I x, .nilp]) (.agg [I (.ofNat 0), .nilp]) = some (.bool true) ∧ Ask false true true false x (.ofNat 0)) := by kernel_rfl
theorem c7pg (z0 x : Int) (m : Nat) : tt false false false true z0 x (.ofNat (.succ m)) 7 = (eqV (.agg [.int, .ptr]) false (.agg [I x, .nilp]) (.agg [I (.ofNat (.succ m)), .nilp]) = some (.bool false) ∧ Ask false false false true x (.ofNat (.succ m))) := by kernel_rfl
theorem c8zl (z0 x : Int) (m : Nat) : tt true true false true z0 x (.ofNat 0) 8 = (eqV (.agg [.int, .ptr]) true (.agg [I x, .nilp]) (.agg [I (.ofNat 0), .nilp]) = some (.bool true) ∧ Ask true true false true x (.ofNat 0)) := by kernel_rfl
theorem c8pe (z0 x : Int) (m : Nat) : tt false true true false z0 x (.ofNat (.succ m)) 8 = (eqV (.agg [.int, .ptr]) true (.agg [I x, .nilp]) (.agg [I (.ofNat (.succ m)), .nilp]) = some (.bool false) ∧ Ask false true true false x (.ofNat (.succ m))) := by kernel_rfl
theorem c8ng (z0 x : Int) (m : Nat) : tt false false false true z0 x (.negSucc m) 8 = (eqV (.agg [.int, .ptr]) true (.agg [I x, .nilp]) (.agg [I (.negSucc m), .nilp]) = some (.bool true) ∧ Ask false false false true x (.negSucc m)) := by kernel_rfl
end Go.R3.LI

