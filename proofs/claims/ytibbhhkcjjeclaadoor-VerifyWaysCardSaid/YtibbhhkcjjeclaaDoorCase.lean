/- Part of a proof: texts W1Ways of the engine and what is proved with it; nothing is assumed. -/
import Derived.Test.YtibbhhkcjjeclaaDoorTran
import Derived.Test.YtibbhhkcjjeclaaDoorEngE
namespace Go.A1.Ways
open Go.Eng
set_option maxRecDepth 100000
noncomputable def cA : AC := af_kilnlaw15_VerifyWays.code.fst
noncomputable def cB : AC := af_kilnlaw15_VerifyWays.code.snd.fst
noncomputable def cC : AC := af_kilnlaw15_VerifyWays.code.snd.snd.fst
noncomputable def cR : AC := af_kilnlaw15_VerifyWays.code.snd.snd.snd.snd.snd
theorem code_eq : af_kilnlaw15_VerifyWays = .mk 2 (seqs [cA, cB, cC] (.seq (.ops (modOps q0 q6 6)) (.seq (.ops (modOps q1 q7 6)) cR))) [.tmp q4] .no 0 := by kernel_rfl
noncomputable def alt (x y : Nat) : AF := .mk 2 (seqs [cA, cB, cC, .ops (setC q6 x)] (.seq (.ops (setC q7 y)) cR)) [.tmp q4] .no 0
theorem wrA : ([cA, cB, cC].flatMap AC.wr) = [cA, cB, cC].flatMap AC.wr := rfl
theorem keep0 : q0 ∉ [cA, cB, cC].flatMap AC.wr := by decide +kernel
theorem keep1 (x : Nat) : q1 ∉ [cA, cB, cC, .ops (setC q6 x)].flatMap AC.wr := by
  have h : q1 ∉ [cA, cB, cC].flatMap AC.wr ++ [q6] := by decide +kernel
  exact h
theorem bridge (a b : Int) (h : exFun (alt (umod a 6) (umod b 6)) G0 (run F G0 200 200) 200 [.int .i64 a 0, .int .i64 b 0] .e 0 isT) :
    exFun af_kilnlaw15_VerifyWays G0 (run F G0 200 200) 200 [.int .i64 a 0, .int .i64 b 0] .e 0 isT := by
  have hc := run_det F G0 200 200
  rw [code_eq, exFun_eq]
  unfold alt at h
  rw [exFun_eq] at h
  refine ⟨h.1, ?_⟩
  refine seqs_swap hc _ (fun R' H' n' hk h' => ?_) (b' := .seq (.ops (setC q6 (umod a 6))) (.seq (.ops (modOps q1 q7 6)) cR)) ?_
  · exact mod_swap (by decide) (by decide) (by rw [hk q0 keep0]; rfl) h'
  · refine seqs_swap hc [cA, cB, cC, .ops (setC q6 (umod a 6))] (fun R' H' n' hk h' => ?_) h.2
    exact mod_swap (by decide) (by decide) (by rw [hk q1 (keep1 _)]; rfl) h'
end Go.A1.Ways

