/- Part of a proof; nothing is assumed. -/
import Derived.Test.YtbcanmhagkiccaaGreatDoorLaw
set_option linter.unusedVariables false
set_option linter.unusedSimpArgs false
set_option maxRecDepth 100000
namespace Go.R5.VD
open Go.Eng Go.R5
theorem Acj(z:Int)(q:Nat):pr (λv H m=>po z 14 (.negSucc q) v H m/\po z 14 (.ofNat (Nat.add q 14)) v H m/\BX z 14 0 9 v H m)=(True/\True/\True/\BR z 14 0 9):=by kernel_rfl
theorem Aa3(z:Int)(q:Nat):pr (λv H m=>po z 22 (.negSucc q) v H m/\po z 22 (.ofNat (Nat.add q 22)) v H m/\BX z 22 0 5 v H m)=(True/\True/\True/\BR z 22 0 5):=by kernel_rfl
theorem AcX(z:Int)(q:Nat):pr (λv H m=>BX z 29 23 5 v H m)=(True/\BR z 29 23 5):=by kernel_rfl
theorem Adm(z:Int)(q:Nat):pr (λv H m=>BX z 23 10 6 v H m)=(True/\BR z 23 10 6):=by kernel_rfl
theorem Adn(z:Int)(q:Nat):pr (λv H m=>BX z 26 22 4 v H m)=(True/\BR z 26 22 4):=by kernel_rfl
theorem Adb(z:Int)(q:Nat):pr (λv H m=>BX z 17 16 1 v H m)=(True/\BR z 17 16 1):=by kernel_rfl
end Go.R5.VD
