/- Part of a proof; nothing is assumed. -/
import Derived.Test.YtbcanmhagkiccaaGreatDoorLaw
set_option linter.unusedVariables false
set_option linter.unusedSimpArgs false
set_option maxRecDepth 100000
namespace Go.R5.VD
open Go.Eng Go.R5
theorem AcN(z:Int)(q:Nat):pr (λv H m=>po z 13 (.negSucc q) v H m/\po z 13 (.ofNat (Nat.add q 13)) v H m/\BX z 13 0 10 v H m)=(True/\True/\True/\BR z 13 0 10):=by kernel_rfl
theorem AdP(z:Int)(q:Nat):pr (λv H m=>po z 25 (.negSucc q) v H m/\po z 25 (.ofNat (Nat.add q 25)) v H m/\BX z 25 0 4 v H m)=(True/\True/\True/\BR z 25 0 4):=by kernel_rfl
theorem AbI(z:Int)(q:Nat):pr (λv H m=>BX z 30 23 5 v H m)=(True/\BR z 30 23 5):=by kernel_rfl
theorem Ac2(z:Int)(q:Nat):pr (λv H m=>BX z 27 13 5 v H m)=(True/\BR z 27 13 5):=by kernel_rfl
theorem AdR(z:Int)(q:Nat):pr (λv H m=>BX z 20 14 6 v H m)=(True/\BR z 20 14 6):=by kernel_rfl
theorem Afd(z:Int)(q:Nat):pr (λv H m=>po z 1 (.negSucc q) v H m/\po z 1 (.ofNat (Nat.add q 1)) v H m/\BX z 1 0 1 v H m)=(True/\True/\True/\BR z 1 0 1):=by kernel_rfl
end Go.R5.VD
