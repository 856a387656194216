/- Part of a proof; nothing is assumed. -/
import Derived.Test.YtbcanmhagkiccaaGreatDoorLaw
set_option linter.unusedVariables false
set_option linter.unusedSimpArgs false
set_option maxRecDepth 100000
namespace Go.R5.VD
open Go.Eng Go.R5
theorem AcT(z:Int)(q:Nat):pr (λv H m=>BX z 31 3 5 v H m)=(True/\BR z 31 3 5):=by kernel_rfl
theorem Aao(z:Int)(q:Nat):pr (λv H m=>BX z 22 12 7 v H m)=(True/\BR z 22 12 7):=by kernel_rfl
theorem Aaw(z:Int)(q:Nat):pr (λv H m=>BX z 18 6 8 v H m)=(True/\BR z 18 6 8):=by kernel_rfl
theorem Ab2(z:Int)(q:Nat):pr (λv H m=>BX z 28 23 5 v H m)=(True/\BR z 28 23 5):=by kernel_rfl
theorem Abm(z:Int)(q:Nat):pr (λv H m=>BX z 14 9 5 v H m)=(True/\BR z 14 9 5):=by kernel_rfl
theorem AcC(z:Int)(q:Nat):pr (λv H m=>BX z 24 22 2 v H m)=(True/\BR z 24 22 2):=by kernel_rfl
end Go.R5.VD
