/- Part of a proof; nothing is assumed. -/
import Derived.Test.YtbcanmhagkiccaaGreatDoorLaw
set_option linter.unusedVariables false
set_option linter.unusedSimpArgs false
set_option maxRecDepth 100000
namespace Go.R5.VD
open Go.Eng Go.R5
theorem Aba(z:Int)(q:Nat):pr (λv H m=>po z 20 (.negSucc q) v H m/\po z 20 (.ofNat (Nat.add q 20)) v H m/\BX z 20 0 6 v H m)=(True/\True/\True/\BR z 20 0 6):=by kernel_rfl
theorem AbT(z:Int)(q:Nat):pr (λv H m=>BX z 30 8 5 v H m)=(True/\BR z 30 8 5):=by kernel_rfl
theorem Aav(z:Int)(q:Nat):pr (λv H m=>BX z 24 4 6 v H m)=(True/\BR z 24 4 6):=by kernel_rfl
theorem AbX(z:Int)(q:Nat):pr (λv H m=>po z 27 (.negSucc q) v H m/\po z 27 (.ofNat (Nat.add q 27)) v H m/\BX z 27 0 3 v H m)=(True/\True/\True/\BR z 27 0 3):=by kernel_rfl
theorem AbR(z:Int)(q:Nat):pr (λv H m=>BX z 27 18 5 v H m)=(True/\BR z 27 18 5):=by kernel_rfl
end Go.R5.VD
