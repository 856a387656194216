/- Part of a proof; nothing is assumed. -/
import Derived.Test.YtbcanmhagkiccaaGreatDoorLaw
set_option linter.unusedVariables false
set_option linter.unusedSimpArgs false
set_option maxRecDepth 100000
namespace Go.R5.VD
open Go.Eng Go.R5
theorem Ade(z:Int)(q:Nat):pr (λv H m=>po z 12 (.negSucc q) v H m/\po z 12 (.ofNat (Nat.add q 12)) v H m/\BX z 12 0 11 v H m)=(True/\True/\True/\BR z 12 0 11):=by kernel_rfl
theorem AcB(z:Int)(q:Nat):pr (λv H m=>po z 15 (.negSucc q) v H m/\po z 15 (.ofNat (Nat.add q 15)) v H m/\BX z 15 0 8 v H m)=(True/\True/\True/\BR z 15 0 8):=by kernel_rfl
theorem AcL(z:Int)(q:Nat):pr (λv H m=>BX z 30 18 5 v H m)=(True/\BR z 30 18 5):=by kernel_rfl
theorem Abk(z:Int)(q:Nat):pr (λv H m=>BX z 27 8 5 v H m)=(True/\BR z 27 8 5):=by kernel_rfl
theorem Aaq(z:Int)(q:Nat):pr (λv H m=>po z 10 (.negSucc q) v H m/\po z 10 (.ofNat (Nat.add q 10)) v H m/\BX z 10 0 10 v H m)=(True/\True/\True/\BR z 10 0 10):=by kernel_rfl
theorem AfR(z:Int)(q:Nat):pr (λv H m=>po z 2 (.negSucc q) v H m/\po z 2 (.ofNat (Nat.add q 2)) v H m/\BX z 2 0 2 v H m)=(True/\True/\True/\BR z 2 0 2):=by kernel_rfl
end Go.R5.VD
