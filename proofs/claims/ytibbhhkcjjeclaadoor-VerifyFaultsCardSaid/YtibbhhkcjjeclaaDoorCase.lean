/- Part of a proof: texts W1Flt of the engine and what is proved with it; nothing is assumed. -/
import Derived.Test.YtibbhhkcjjeclaaDoorTran
import Derived.Test.YtibbhhkcjjeclaaDoorEngE
set_option linter.unusedVariables false
set_option linter.unusedSimpArgs false
namespace Go.A1.A1Flt
open Go.Eng
set_option maxRecDepth 100000
noncomputable def l3 : List AOp := af_kilnlaw15_VerifyFaults.code.snd.snd.snd.fst.opl.drop 3
noncomputable def l5 : List AOp := af_kilnlaw15_VerifyFaults.code.snd.snd.snd.snd.snd.fst.opl.drop 1
noncomputable def c0 : AC := af_kilnlaw15_VerifyFaults.code.fst
noncomputable def c1 : AC := af_kilnlaw15_VerifyFaults.code.snd.fst
noncomputable def c2 : AC := af_kilnlaw15_VerifyFaults.code.snd.snd.fst
noncomputable def c4 : AC := af_kilnlaw15_VerifyFaults.code.snd.snd.snd.snd.fst
noncomputable def cR : AC := af_kilnlaw15_VerifyFaults.code.snd.snd.snd.snd.snd.snd
theorem code_eq : af_kilnlaw15_VerifyFaults = .mk 2 (.seq c0 (.seq c1 (.seq c2 (.seq (.ops (mod3 q0 16 ++ l3)) (.seq c4 (.seq (.ops (.mk .ps .no (.n (.bin .and (.r q1) (.c (.int .i64 (.ofNat 7) 0)))) :: l5)) cR)))))) [.tmp q4] .no 0 := by kernel_rfl
noncomputable def alt (a0 a1 : Int) (x0 x1 : Nat) : AF := .mk 2 (.seq c0 (.seq c1 (.seq c2 (.seq (.ops (modC a0 x0 ++ l3)) (.seq c4 (.seq (.ops (mvc (.int .i64 (.ofNat x1) 0) :: l5)) cR)))))) [.tmp q4] .no 0
theorem keep0 (a0 a1 : Int) (x0 x1 : Nat) : inP q0 (([c0, c1, c2] : List AC).flatMap AC.wr) = false := by kernel_rfl
theorem keep1 (a0 a1 : Int) (x0 x1 : Nat) : inP q1 (([c0, c1, c2, (.ops (modC a0 x0 ++ l3)), c4] : List AC).flatMap AC.wr) = false := by kernel_rfl
theorem bridge (a0 a1 : Int) (h : exFun (alt a0 a1 (umod a0 16) (uand a1 7)) G0 (run F G0 200 200) 200 [.int .i64 a0 0, .int .i64 a1 0] .e 0 isT) : exFun af_kilnlaw15_VerifyFaults G0 (run F G0 200 200) 200 [.int .i64 a0 0, .int .i64 a1 0] .e 0 isT := by
  have hc := run_det F G0 200 200
  rw [code_eq, exFun_eq]
  unfold alt at h
  rw [exFun_eq] at h
  refine ⟨h.1, ?_⟩
  refine seqs_swap hc [c0, c1, c2] (b := .seq (.ops (mod3 q0 16 ++ l3)) (.seq c4 (.seq (.ops (.mk .ps .no (.n (.bin .and (.r q1) (.c (.int .i64 (.ofNat 7) 0)))) :: l5)) cR))) (b' := .seq (.ops (modC a0 (umod a0 16) ++ l3)) (.seq c4 (.seq (.ops (.mk .ps .no (.n (.bin .and (.r q1) (.c (.int .i64 (.ofNat 7) 0)))) :: l5)) cR))) (fun R' H' n' hk h' => mod_swap (by decide) (by decide) (by rw [hk q0 (inP_false (keep0 a0 a1 (umod a0 16) (uand a1 7)))]; rfl) h') ?_
  refine seqs_swap hc [c0, c1, c2, (.ops (modC a0 (umod a0 16) ++ l3)), c4] (b := .seq (.ops (.mk .ps .no (.n (.bin .and (.r q1) (.c (.int .i64 (.ofNat 7) 0)))) :: l5)) cR) (b' := .seq (.ops (mvc (.int .i64 (.ofNat (uand a1 7)) 0) :: l5)) cR) (fun R' H' n' hk h' => and_swap (by decide) (by rw [hk q1 (inP_false (keep1 a0 a1 (umod a0 16) (uand a1 7)))]; rfl) h') ?_
  exact h.2
def Case (x0 x1 : Nat) : Prop := ∀ a0 a1 : Int, exFun (alt a0 a1 x0 x1) G0 (run F G0 200 200) 200 [.int .i64 a0 0, .int .i64 a1 0] .e 0 isT
end Go.A1.A1Flt

