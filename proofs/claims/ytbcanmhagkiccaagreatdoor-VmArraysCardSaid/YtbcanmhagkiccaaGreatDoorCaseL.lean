/- Part of a proof; nothing is assumed. -/
import Derived.Test.YtbcanmhagkiccaaGreatDoorLaw
set_option linter.unusedVariables false
set_option linter.unusedSimpArgs false
set_option maxRecDepth 100000
namespace Go.R5.VD
open Go.Eng Go.R5
theorem AbC(z:Int)(q:Nat):pr (λv H m=>BX z 31 8 5 v H m)=(True/\BR z 31 8 5):=by kernel_rfl
theorem Abe(z:Int)(q:Nat):pr (λv H m=>po z 17 (.negSucc q) v H m/\po z 17 (.ofNat (Nat.add q 17)) v H m/\BX z 17 0 7 v H m)=(True/\True/\True/\BR z 17 0 7):=by kernel_rfl
theorem Adw(z:Int)(q:Nat):pr (λv H m=>BX z 29 13 5 v H m)=(True/\BR z 29 13 5):=by kernel_rfl
theorem Acl(z:Int)(q:Nat):pr (λv H m=>po z 23 (.negSucc q) v H m/\po z 23 (.ofNat (Nat.add q 23)) v H m/\BX z 23 0 4 v H m)=(True/\True/\True/\BR z 23 0 4):=by kernel_rfl
theorem AbG(z:Int)(q:Nat):pr (λv H m=>BX z 27 23 4 v H m)=(True/\BR z 27 23 4):=by kernel_rfl
theorem Acx(z:Int)(q:Nat):pr (λv H m=>BX z 12 11 1 v H m)=(True/\BR z 12 11 1):=by kernel_rfl
end Go.R5.VD
