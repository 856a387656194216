/- Part of a proof; nothing is assumed. -/
import Derived.Test.YtbcanmhagkiccaaGreatDoorLaw
set_option linter.unusedVariables false
set_option linter.unusedSimpArgs false
set_option maxRecDepth 100000
namespace Go.R5.VD
open Go.Eng Go.R5
theorem AbF(z:Int)(q:Nat):pr (λv H m=>po z 26 (.negSucc q) v H m/\po z 26 (.ofNat (Nat.add q 26)) v H m/\BX z 26 0 4 v H m)=(True/\True/\True/\BR z 26 0 4):=by kernel_rfl
theorem Acw(z:Int)(q:Nat):pr (λv H m=>BX z 25 4 6 v H m)=(True/\BR z 25 4 6):=by kernel_rfl
theorem AdO(z:Int)(q:Nat):pr (λv H m=>po z 21 (.negSucc q) v H m/\po z 21 (.ofNat (Nat.add q 21)) v H m/\BX z 21 0 5 v H m)=(True/\True/\True/\BR z 21 0 5):=by kernel_rfl
theorem Acg(z:Int)(q:Nat):pr (λv H m=>BX z 28 3 5 v H m)=(True/\BR z 28 3 5):=by kernel_rfl
theorem Acb(z:Int)(q:Nat):pr (λv H m=>BX z 31 28 3 v H m)=(True/\BR z 31 28 3):=by kernel_rfl
theorem Aa7(z:Int)(q:Nat):pr (λv H m=>BX z 29 28 1 v H m)=(True/\BR z 29 28 1):=by kernel_rfl
end Go.R5.VD
