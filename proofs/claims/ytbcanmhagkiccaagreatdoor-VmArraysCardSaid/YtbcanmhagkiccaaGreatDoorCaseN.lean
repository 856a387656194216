/- Part of a proof; nothing is assumed. -/
import Derived.Test.YtbcanmhagkiccaaGreatDoorLaw
set_option linter.unusedVariables false
set_option linter.unusedSimpArgs false
set_option maxRecDepth 100000
namespace Go.R5.VD
open Go.Eng Go.R5
theorem Aa1(z:Int)(q:Nat):pr (λv H m=>BX z 31 18 5 v H m)=(True/\BR z 31 18 5):=by kernel_rfl
theorem Ach(z:Int)(q:Nat):pr (λv H m=>po z 19 (.negSucc q) v H m/\po z 19 (.ofNat (Nat.add q 19)) v H m/\BX z 19 0 6 v H m)=(True/\True/\True/\BR z 19 0 6):=by kernel_rfl
theorem Ac6(z:Int)(q:Nat):pr (λv H m=>BX z 29 3 5 v H m)=(True/\BR z 29 3 5):=by kernel_rfl
theorem Aag(z:Int)(q:Nat):pr (λv H m=>po z 11 (.negSucc q) v H m/\po z 11 (.ofNat (Nat.add q 11)) v H m/\BX z 11 0 11 v H m)=(True/\True/\True/\BR z 11 0 11):=by kernel_rfl
theorem AfC(z:Int)(q:Nat):pr (λv H m=>po z 7 (.negSucc q) v H m/\po z 7 (.ofNat (Nat.add q 7)) v H m/\BX z 7 0 7 v H m)=(True/\True/\True/\BR z 7 0 7):=by kernel_rfl
theorem Acr(z:Int)(q:Nat):pr (λv H m=>BX z 30 28 2 v H m)=(True/\BR z 30 28 2):=by kernel_rfl
end Go.R5.VD
