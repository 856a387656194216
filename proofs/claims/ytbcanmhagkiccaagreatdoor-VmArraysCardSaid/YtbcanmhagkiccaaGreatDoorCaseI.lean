/- Part of a proof; nothing is assumed. -/
import Derived.Test.YtbcanmhagkiccaaGreatDoorLaw
set_option linter.unusedVariables false
set_option linter.unusedSimpArgs false
set_option maxRecDepth 100000
namespace Go.R5.VD
open Go.Eng Go.R5
theorem Aby(z:Int)(q:Nat):pr (λv H m=>BX z 26 16 6 v H m)=(True/\BR z 26 16 6):=by kernel_rfl
theorem AcO(z:Int)(q:Nat):pr (λv H m=>po z 30 (.negSucc q) v H m/\po z 30 (.ofNat (Nat.add q 30)) v H m/\BX z 30 0 3 v H m)=(True/\True/\True/\BR z 30 0 3):=by kernel_rfl
theorem AdD(z:Int)(q:Nat):pr (λv H m=>po z 29 (.negSucc q) v H m/\po z 29 (.ofNat (Nat.add q 29)) v H m/\BX z 29 0 3 v H m)=(True/\True/\True/\BR z 29 0 3):=by kernel_rfl
theorem AcD(z:Int)(q:Nat):pr (λv H m=>BX z 24 16 6 v H m)=(True/\BR z 24 16 6):=by kernel_rfl
theorem Adh(z:Int)(q:Nat):pr (λv H m=>BX z 22 19 3 v H m)=(True/\BR z 22 19 3):=by kernel_rfl
theorem AgN(z:Int)(q:Nat):pr (λv H m=>po z 6 (.negSucc q) v H m/\po z 6 (.ofNat (Nat.add q 6)) v H m/\BX z 6 0 6 v H m)=(True/\True/\True/\BR z 6 0 6):=by kernel_rfl
end Go.R5.VD
