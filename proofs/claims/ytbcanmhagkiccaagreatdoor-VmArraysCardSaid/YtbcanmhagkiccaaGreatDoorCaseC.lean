/- Part of a proof; nothing is assumed. -/
import Derived.Test.YtbcanmhagkiccaaGreatDoorLaw
set_option linter.unusedVariables false
set_option linter.unusedSimpArgs false
set_option maxRecDepth 100000
namespace Go.R5.VD
open Go.Eng Go.R5
theorem AbZ(z:Int)(q:Nat):pr (λv H m=>BX z 20 6 8 v H m)=(True/\BR z 20 6 8):=by kernel_rfl
theorem AcP(z:Int)(q:Nat):pr (λv H m=>BX z 30 13 5 v H m)=(True/\BR z 30 13 5):=by kernel_rfl
theorem AbM(z:Int)(q:Nat):pr (λv H m=>BX z 24 10 6 v H m)=(True/\BR z 24 10 6):=by kernel_rfl
theorem AdY(z:Int)(q:Nat):pr (λv H m=>BX z 27 3 5 v H m)=(True/\BR z 27 3 5):=by kernel_rfl
theorem Ab0(z:Int)(q:Nat):pr (λv H m=>BX z 16 8 8 v H m)=(True/\BR z 16 8 8):=by kernel_rfl
theorem AgB(z:Int)(q:Nat):pr (λv H m=>po z 0 (.negSucc q) v H m/\po z 0 (.ofNat (Nat.add q 0)) v H m/\BX z 0 0 0 v H m)=(True/\True/\True/\BR z 0 0 0):=by kernel_rfl
end Go.R5.VD
