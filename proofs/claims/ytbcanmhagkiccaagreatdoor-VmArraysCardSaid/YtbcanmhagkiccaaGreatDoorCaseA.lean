/- Part of a proof; nothing is assumed. -/
import Derived.Test.YtbcanmhagkiccaaGreatDoorLaw
set_option linter.unusedVariables false
set_option linter.unusedSimpArgs false
set_option maxRecDepth 100000
namespace Go.R5.VD
open Go.Eng Go.R5
theorem Ac3(z:Int)(q:Nat):pr (λv H m=>po z 16 (.negSucc q) v H m/\po z 16 (.ofNat (Nat.add q 16)) v H m/\BX z 16 0 8 v H m)=(True/\True/\True/\BR z 16 0 8):=by kernel_rfl
theorem Acf(z:Int)(q:Nat):pr (λv H m=>BX z 30 3 5 v H m)=(True/\BR z 30 3 5):=by kernel_rfl
theorem AcW(z:Int)(q:Nat):pr (λv H m=>po z 24 (.negSucc q) v H m/\po z 24 (.ofNat (Nat.add q 24)) v H m/\BX z 24 0 4 v H m)=(True/\True/\True/\BR z 24 0 4):=by kernel_rfl
theorem AbN(z:Int)(q:Nat):pr (λv H m=>BX z 23 16 6 v H m)=(True/\BR z 23 16 6):=by kernel_rfl
theorem AfS(z:Int)(q:Nat):pr (λv H m=>po z 9 (.negSucc q) v H m/\po z 9 (.ofNat (Nat.add q 9)) v H m/\BX z 9 0 9 v H m)=(True/\True/\True/\BR z 9 0 9):=by kernel_rfl
theorem Ad2(z:Int)(q:Nat):pr (λv H m=>BX z 23 22 1 v H m)=(True/\BR z 23 22 1):=by kernel_rfl
end Go.R5.VD
