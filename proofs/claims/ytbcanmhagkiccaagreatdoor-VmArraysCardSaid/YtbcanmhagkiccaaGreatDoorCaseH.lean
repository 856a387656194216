/- Part of a proof; nothing is assumed. -/
import Derived.Test.YtbcanmhagkiccaaGreatDoorLaw
set_option linter.unusedVariables false
set_option linter.unusedSimpArgs false
set_option maxRecDepth 100000
namespace Go.R5.VD
open Go.Eng Go.R5
theorem Abi(z:Int)(q:Nat):pr (λv H m=>BX z 26 10 6 v H m)=(True/\BR z 26 10 6):=by kernel_rfl
theorem Abh(z:Int)(q:Nat):pr (λv H m=>BX z 25 16 6 v H m)=(True/\BR z 25 16 6):=by kernel_rfl
theorem AdF(z:Int)(q:Nat):pr (λv H m=>BX z 21 12 7 v H m)=(True/\BR z 21 12 7):=by kernel_rfl
theorem Abs(z:Int)(q:Nat):pr (λv H m=>BX z 28 13 5 v H m)=(True/\BR z 28 13 5):=by kernel_rfl
theorem Adq(z:Int)(q:Nat):pr (λv H m=>BX z 25 22 3 v H m)=(True/\BR z 25 22 3):=by kernel_rfl
theorem AcF(z:Int)(q:Nat):pr (λv H m=>BX z 13 10 3 v H m)=(True/\BR z 13 10 3):=by kernel_rfl
end Go.R5.VD
