/- Part of a proof; nothing is assumed. -/
import Derived.Test.YtbcanmhagkiccaaGreatDoorLaw
set_option linter.unusedVariables false
set_option linter.unusedSimpArgs false
set_option maxRecDepth 100000
namespace Go.R5.VD
open Go.Eng Go.R5
theorem AbJ(z:Int)(q:Nat):pr (λv H m=>po z 31 (.negSucc q) v H m/\po z 31 (.ofNat (Nat.add q 31)) v H m/\BX z 31 0 3 v H m)=(True/\True/\True/\BR z 31 0 3):=by kernel_rfl
theorem Acy(z:Int)(q:Nat):pr (λv H m=>BX z 22 5 7 v H m)=(True/\BR z 22 5 7):=by kernel_rfl
theorem Ab1(z:Int)(q:Nat):pr (λv H m=>po z 18 (.negSucc q) v H m/\po z 18 (.ofNat (Nat.add q 18)) v H m/\BX z 18 0 6 v H m)=(True/\True/\True/\BR z 18 0 6):=by kernel_rfl
theorem Acd(z:Int)(q:Nat):pr (λv H m=>BX z 28 18 5 v H m)=(True/\BR z 28 18 5):=by kernel_rfl
theorem Abl(z:Int)(q:Nat):pr (λv H m=>BX z 18 14 4 v H m)=(True/\BR z 18 14 4):=by kernel_rfl
theorem AcM(z:Int)(q:Nat):pr (λv H m=>BX z 21 19 2 v H m)=(True/\BR z 21 19 2):=by kernel_rfl
end Go.R5.VD
