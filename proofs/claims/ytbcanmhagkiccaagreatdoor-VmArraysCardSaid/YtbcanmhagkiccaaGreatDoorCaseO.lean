/- Part of a proof; nothing is assumed. -/
import Derived.Test.YtbcanmhagkiccaaGreatDoorLaw
set_option linter.unusedVariables false
set_option linter.unusedSimpArgs false
set_option maxRecDepth 100000
namespace Go.R5.VD
open Go.Eng Go.R5
theorem Abj(z:Int)(q:Nat):pr (λv H m=>BX z 31 23 5 v H m)=(True/\BR z 31 23 5):=by kernel_rfl
theorem Abt(z:Int)(q:Nat):pr (λv H m=>BX z 19 6 8 v H m)=(True/\BR z 19 6 8):=by kernel_rfl
theorem Ac1(z:Int)(q:Nat):pr (λv H m=>BX z 29 8 5 v H m)=(True/\BR z 29 8 5):=by kernel_rfl
theorem AbS(z:Int)(q:Nat):pr (λv H m=>po z 28 (.negSucc q) v H m/\po z 28 (.ofNat (Nat.add q 28)) v H m/\BX z 28 0 3 v H m)=(True/\True/\True/\BR z 28 0 3):=by kernel_rfl
theorem Acu(z:Int)(q:Nat):pr (λv H m=>BX z 19 14 5 v H m)=(True/\BR z 19 14 5):=by kernel_rfl
theorem AfK(z:Int)(q:Nat):pr (λv H m=>po z 4 (.negSucc q) v H m/\po z 4 (.ofNat (Nat.add q 4)) v H m/\BX z 4 0 4 v H m)=(True/\True/\True/\BR z 4 0 4):=by kernel_rfl
end Go.R5.VD
