/- Part of a proof; nothing is assumed. -/
import Derived.Test.YtbcanmhagkiccaaGreatDoorLaw
set_option linter.unusedVariables false
set_option linter.unusedSimpArgs false
set_option maxRecDepth 100000
namespace Go.R5.VD
open Go.Eng Go.R5
theorem Aal(z:Int)(q:Nat):pr (λv H m=>BX z 31 13 5 v H m)=(True/\BR z 31 13 5):=by kernel_rfl
theorem AdZ(z:Int)(q:Nat):pr (λv H m=>BX z 17 7 9 v H m)=(True/\BR z 17 7 9):=by kernel_rfl
theorem AcQ(z:Int)(q:Nat):pr (λv H m=>BX z 29 18 5 v H m)=(True/\BR z 29 18 5):=by kernel_rfl
theorem AcK(z:Int)(q:Nat):pr (λv H m=>BX z 23 4 6 v H m)=(True/\BR z 23 4 6):=by kernel_rfl
theorem AbU(z:Int)(q:Nat):pr (λv H m=>BX z 15 8 7 v H m)=(True/\BR z 15 8 7):=by kernel_rfl
theorem Af8(z:Int)(q:Nat):pr (λv H m=>po z 3 (.negSucc q) v H m/\po z 3 (.ofNat (Nat.add q 3)) v H m/\BX z 3 0 3 v H m)=(True/\True/\True/\BR z 3 0 3):=by kernel_rfl
end Go.R5.VD
