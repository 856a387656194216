/- Part of a proof; nothing is assumed. -/
import Derived.Test.YtbcanmhagkiccaaGreatDoorLaw
set_option linter.unusedVariables false
set_option linter.unusedSimpArgs false
set_option maxRecDepth 100000
namespace Go.R5.VD
open Go.Eng Go.R5
theorem AcY(z:Int)(q:Nat):pr (λv H m=>BX z 26 4 6 v H m)=(True/\BR z 26 4 6):=by kernel_rfl
theorem Aas(z:Int)(q:Nat):pr (λv H m=>BX z 25 10 6 v H m)=(True/\BR z 25 10 6):=by kernel_rfl
theorem AdH(z:Int)(q:Nat):pr (λv H m=>BX z 21 5 7 v H m)=(True/\BR z 21 5 7):=by kernel_rfl
theorem AdC(z:Int)(q:Nat):pr (λv H m=>BX z 28 8 5 v H m)=(True/\BR z 28 8 5):=by kernel_rfl
theorem Afs(z:Int)(q:Nat):pr (λv H m=>po z 8 (.negSucc q) v H m/\po z 8 (.ofNat (Nat.add q 8)) v H m/\BX z 8 0 8 v H m)=(True/\True/\True/\BR z 8 0 8):=by kernel_rfl
theorem AfE(z:Int)(q:Nat):pr (λv H m=>po z 5 (.negSucc q) v H m/\po z 5 (.ofNat (Nat.add q 5)) v H m/\BX z 5 0 5 v H m)=(True/\True/\True/\BR z 5 0 5):=by kernel_rfl
end Go.R5.VD
