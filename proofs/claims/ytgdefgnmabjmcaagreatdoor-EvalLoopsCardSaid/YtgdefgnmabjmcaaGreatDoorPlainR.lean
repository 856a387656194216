/- Part of a proof: texts RBSi RBSt of the engine and what is proved with it; nothing is assumed. -/
import Derived.Test.YtgdefgnmabjmcaaGreatDoorPlain
import Derived.Test.YtgdefgnmabjmcaaGreatDoorCode
import Derived.Test.YtgdefgnmabjmcaaGreatDoorEngE
set_option linter.unusedVariables false
set_option linter.unusedSimpArgs false
/- They are right: printed by program. -/
namespace Go.R3
open Go.Eng
set_option maxRecDepth 100000
inductive Ok1 (G : Roms) (n : Nat) (s : SF) : Prop where
  | mk {af : AF} (h : T.get F n = some af) (o : SfOk G af s) : Ok1 G n s
noncomputable def an_f17 (lp : LpT) (G : Roms) (call : CallT) (k : KV) : An := (.s .n (.s .n (.s .n (.s .n (.s .n (.s .n (.j (fun R=>s_f17_j42 lp G call k (rg R q3) (rg R q4) (rg R q5) (rg R q9)) (.s .n (.b (.l _ (s_f17_l61b lp G call k) (fun R H n=>(rg R q3, rg R q4, rg R q5, rg R q9, rg R q52, rg R q53, rg R q54, H, n)) fun ih61=>.n))) .n)))))))
theorem si_f17 {lp : LpT} (hL : LpOk lp) (G : Roms) : Ok1 G 17 (ar2 (s_f17 lp G)) :=
  .mk at_f17 <| sf2 hL (an := an_f17 lp G) (fun _ _ => obs (by kernel_rfl)) fun call a0 a1 H n k => by kernel_rfl
noncomputable def an_f19 (lp : LpT) (G : Roms) (call : CallT) (k : KV) : An := .n
theorem si_f19 {lp : LpT} (hL : LpOk lp) (G : Roms) : Ok1 G 19 (ar0 (s_f19 lp G)) :=
  .mk at_f19 <| sf0 hL (an := an_f19 lp G) (fun _ _ => obs (by kernel_rfl)) fun call  H n k => by kernel_rfl
noncomputable def an_f20 (lp : LpT) (G : Roms) (call : CallT) (k : KV) : An := (.s .n (.s .n (.j (fun R=>s_f20_j2 lp G call k (rg R q5)) (.s .n (.b (.l _ (s_f20_l29b lp G call k) (fun R H n=>(rg R q5, rg R q17, rg R q18, rg R q19, H, n)) fun ih29=>.n))) (.s .n (.s .n (.j (fun R=>s_f20_j5 lp G call k (rg R q10) (rg R q11)) (.s .n (.b (.l _ (s_f20_l7b lp G call k) (fun R H n=>(rg R q10, rg R q11, rg R q39, rg R q40, rg R q41, H, n)) fun ih7=>.n))) .n))))))
theorem si_f20 {lp : LpT} (hL : LpOk lp) (G : Roms) : Ok1 G 20 (ar1 (s_f20 lp G)) :=
  .mk at_f20 <| sf1 hL (an := an_f20 lp G) (fun _ _ => obs (by kernel_rfl)) fun call a0 H n k => by kernel_rfl
noncomputable def an_f21 (lp : LpT) (G : Roms) (call : CallT) (k : KV) : An := (.s .n (.s .n (.j (fun R=>s_f21_j7 lp G call k (rg R q0) (rg R q2) (rg R q3) (rg R q4) (rg R q12) (rg R q14)) (.s .n (.b (.l _ (s_f21_l66b lp G call k) (fun R H n=>(rg R q0, rg R q2, rg R q3, rg R q4, rg R q12, rg R q14, rg R q29, rg R q30, rg R q31, H, n)) fun ih66=>.n))) (.s .n (.s .n (.s .n (.j (fun R=>s_f21_j34 lp G call k (rg R q2) (rg R q3) (rg R q12) (rg R q14) (rg R q20)) (.s .n (.b (.l _ (s_f21_l57b lp G call k) (fun R H n=>(rg R q2, rg R q3, rg R q12, rg R q14, rg R q20, rg R q74, rg R q75, rg R q76, H, n)) fun ih57=>.n))) (.s .n (.j (fun R=>s_f21_j39 lp G call k (rg R q12) (rg R q14) (rg R q23)) .n .n)))))))))
theorem si_f21 {lp : LpT} (hL : LpOk lp) (G : Roms) : Ok1 G 21 (ar6 (s_f21 lp G)) :=
  .mk at_f21 <| sf6 hL (an := an_f21 lp G) (fun _ _ => obs (by kernel_rfl)) fun call a0 a1 a2 a3 a4 a5 H n k => by kernel_rfl
noncomputable def an_f23 (lp : LpT) (G : Roms) (call : CallT) (k : KV) : An := .n
theorem si_f23 {lp : LpT} (hL : LpOk lp) (G : Roms) : Ok1 G 23 (ar0 (s_f23 lp G)) :=
  .mk at_f23 <| sf0 hL (an := an_f23 lp G) (fun _ _ => obs (by kernel_rfl)) fun call  H n k => by kernel_rfl
noncomputable def an_f24 (lp : LpT) (G : Roms) (call : CallT) (k : KV) : An := .n
theorem si_f24 {lp : LpT} (hL : LpOk lp) (G : Roms) : Ok1 G 24 (ar1 (s_f24 lp G)) :=
  .mk at_f24 <| sf1 hL (an := an_f24 lp G) (fun _ _ => obs (by kernel_rfl)) fun call a0 H n k => by kernel_rfl
noncomputable def an_f25 (lp : LpT) (G : Roms) (call : CallT) (k : KV) : An := .n
theorem si_f25 {lp : LpT} (hL : LpOk lp) (G : Roms) : Ok1 G 25 (ar2 (s_f25 lp G)) :=
  .mk at_f25 <| sf2 hL (an := an_f25 lp G) (fun _ _ => obs (by kernel_rfl)) fun call a0 a1 H n k => by kernel_rfl
noncomputable def an_f26 (lp : LpT) (G : Roms) (call : CallT) (k : KV) : An := .n
theorem si_f26 {lp : LpT} (hL : LpOk lp) (G : Roms) : Ok1 G 26 (ar2 (s_f26 lp G)) :=
  .mk at_f26 <| sf2 hL (an := an_f26 lp G) (fun _ _ => obs (by kernel_rfl)) fun call a0 a1 H n k => by kernel_rfl
noncomputable def an_f27 (lp : LpT) (G : Roms) (call : CallT) (k : KV) : An := (.s .n (.s .n (.j (fun R=>s_f27_j13 lp G call k (rg R q2) (rg R q3)) (.s .n (.b (.l _ (s_f27_l20b lp G call k) (fun R H n=>(rg R q2, rg R q3, rg R q15, rg R q16, rg R q17, H, n)) fun ih20=>.n))) .n)))
theorem si_f27 {lp : LpT} (hL : LpOk lp) (G : Roms) : Ok1 G 27 (ar1 (s_f27 lp G)) :=
  .mk at_f27 <| sf1 hL (an := an_f27 lp G) (fun _ _ => obs (by kernel_rfl)) fun call a0 H n k => by kernel_rfl
noncomputable def an_f28 (lp : LpT) (G : Roms) (call : CallT) (k : KV) : An := (.s .n (.s .n (.s .n (.s .n (.s .n (.s .n (.j (fun R=>s_f28_j32 lp G call k (rg R q0) (rg R q5)) (.s .n (.b (.l _ (s_f28_l74b lp G call k) (fun R H n=>(rg R q0, rg R q5, rg R q67, rg R q68, rg R q69, H, n)) fun ih74=>.n))) (.j (fun R=>s_f28_j33 lp G call k) (.s .n (.b (.l _ (s_f28_l37b lp G call k) (fun R H n=>(rg R q0, rg R q5, rg R q92, rg R q93, rg R q94, H, n)) fun ih37=>.n))) .n))))))))
theorem si_f28 {lp : LpT} (hL : LpOk lp) (G : Roms) : Ok1 G 28 (ar2 (s_f28 lp G)) :=
  .mk at_f28 <| sf2 hL (an := an_f28 lp G) (fun _ _ => obs (by kernel_rfl)) fun call a0 a1 H n k => by kernel_rfl
noncomputable def an_f29 (lp : LpT) (G : Roms) (call : CallT) (k : KV) : An := .n
theorem si_f29 {lp : LpT} (hL : LpOk lp) (G : Roms) : Ok1 G 29 (ar1 (s_f29 lp G)) :=
  .mk at_f29 <| sf1 hL (an := an_f29 lp G) (fun _ _ => obs (by kernel_rfl)) fun call a0 H n k => by kernel_rfl
noncomputable def an_f30 (lp : LpT) (G : Roms) (call : CallT) (k : KV) : An := (.s .n (.s .n (.j (fun R=>s_f30_j11 lp G call k (rg R q0) (rg R q3) (rg R q4)) (.s .n (.b (.l _ (s_f30_l22b lp G call k) (fun R H n=>(rg R q0, rg R q3, rg R q4, rg R q16, rg R q17, rg R q18, H, n)) fun ih22=>.n))) .n)))
theorem si_f30 {lp : LpT} (hL : LpOk lp) (G : Roms) : Ok1 G 30 (ar2 (s_f30 lp G)) :=
  .mk at_f30 <| sf2 hL (an := an_f30 lp G) (fun _ _ => obs (by kernel_rfl)) fun call a0 a1 H n k => by kernel_rfl
noncomputable def an_f31 (lp : LpT) (G : Roms) (call : CallT) (k : KV) : An := (.s .n (.s .n (.j (fun R=>s_f31_j5 lp G call k (rg R q3)) (.s .n (.b (.l _ (s_f31_l7b lp G call k) (fun R H n=>(rg R q3, rg R q10, rg R q11, rg R q12, H, n)) fun ih7=>.n))) .n)))
theorem si_f31 {lp : LpT} (hL : LpOk lp) (G : Roms) : Ok1 G 31 (ar1 (s_f31 lp G)) :=
  .mk at_f31 <| sf1 hL (an := an_f31 lp G) (fun _ _ => obs (by kernel_rfl)) fun call a0 H n k => by kernel_rfl
noncomputable def an_f32 (lp : LpT) (G : Roms) (call : CallT) (k : KV) : An := (.s .n (.s .n (.j (fun R=>s_f32_j2 lp G call k (rg R q3)) (.s .n (.b (.l _ (s_f32_l5b lp G call k) (fun R H n=>(rg R q3, rg R q7, rg R q8, rg R q9, H, n)) fun ih5=>.n))) .n)))
theorem si_f32 {lp : LpT} (hL : LpOk lp) (G : Roms) : Ok1 G 32 (ar1 (s_f32 lp G)) :=
  .mk at_f32 <| sf1 hL (an := an_f32 lp G) (fun _ _ => obs (by kernel_rfl)) fun call a0 H n k => by kernel_rfl
noncomputable def an_f33 (lp : LpT) (G : Roms) (call : CallT) (k : KV) : An := (.s .n (.s .n (.j (fun R=>s_f33_j5 lp G call k (rg R q9)) (.s .n (.b (.l _ (s_f33_l9b lp G call k) (fun R H n=>(rg R q0, rg R q2, rg R q3, rg R q9, rg R q25, rg R q26, rg R q27, H, n)) fun ih9=>.n))) .n)))
theorem si_f33 {lp : LpT} (hL : LpOk lp) (G : Roms) : Ok1 G 33 (ar4 (s_f33 lp G)) :=
  .mk at_f33 <| sf4 hL (an := an_f33 lp G) (fun _ _ => obs (by kernel_rfl)) fun call a0 a1 a2 a3 H n k => by kernel_rfl
noncomputable def an_f34 (lp : LpT) (G : Roms) (call : CallT) (k : KV) : An := .n
theorem si_f34 {lp : LpT} (hL : LpOk lp) (G : Roms) : Ok1 G 34 (ar2 (s_f34 lp G)) :=
  .mk at_f34 <| sf2 hL (an := an_f34 lp G) (fun _ _ => obs (by kernel_rfl)) fun call a0 a1 H n k => by kernel_rfl
noncomputable def an_f35 (lp : LpT) (G : Roms) (call : CallT) (k : KV) : An := .n
theorem si_f35 {lp : LpT} (hL : LpOk lp) (G : Roms) : Ok1 G 35 (ar1 (s_f35 lp G)) :=
  .mk at_f35 <| sf1 hL (an := an_f35 lp G) (fun _ _ => obs (by kernel_rfl)) fun call a0 H n k => by kernel_rfl
noncomputable def an_f36 (lp : LpT) (G : Roms) (call : CallT) (k : KV) : An := (.s .n (.j (fun R=>s_f36_j4 lp G call k (rg R q2) (rg R q3) (rg R q4) (rg R q5) (rg R q8) (rg R q68)) .n (.s .n (.s .n (.j (fun R=>s_f36_j10 lp G call k (rg R q5) (rg R q8) (rg R q9) (rg R q68)) (.s .n (.b (.l _ (s_f36_l21b lp G call k) (fun R H n=>(rg R q3, rg R q5, rg R q8, rg R q9, rg R q38, rg R q39, rg R q40, rg R q68, H, n)) fun ih21=>(.s .n (.s .n (.j (fun R=>s_f36_j23 lp G call k ih21 (rg R q3) (rg R q5) (rg R q8) (rg R q9) (rg R q38) (rg R q39) (rg R q40) (rg R q68)) .n .n)))))) .n)))))
theorem si_f36 {lp : LpT} (hL : LpOk lp) (G : Roms) : Ok1 G 36 (ar4 (s_f36 lp G)) :=
  .mk at_f36 <| sf4 hL (an := an_f36 lp G) (fun _ _ => obs (by kernel_rfl)) fun call a0 a1 a2 a3 H n k => by kernel_rfl
noncomputable def an_f37 (lp : LpT) (G : Roms) (call : CallT) (k : KV) : An := (.s .n (.s .n (.j (fun R=>s_f37_j11 lp G call k (rg R q8)) (.s .n (.b (.l _ (s_f37_l20b lp G call k) (fun R H n=>(rg R q2, rg R q3, rg R q8, rg R q32, rg R q33, rg R q34, H, n)) fun ih20=>.n))) .n)))
theorem si_f37 {lp : LpT} (hL : LpOk lp) (G : Roms) : Ok1 G 37 (ar4 (s_f37 lp G)) :=
  .mk at_f37 <| sf4 hL (an := an_f37 lp G) (fun _ _ => obs (by kernel_rfl)) fun call a0 a1 a2 a3 H n k => by kernel_rfl
noncomputable def an_f38 (lp : LpT) (G : Roms) (call : CallT) (k : KV) : An := (.s .n (.s .n (.s .n (.s .n (.b (.l _ (s_f38_l12b lp G call k) (fun R H n=>(rg R q3, rg R q4, rg R q5, H, n)) fun ih12=>.n))))))
theorem si_f38 {lp : LpT} (hL : LpOk lp) (G : Roms) : Ok1 G 38 (ar1 (s_f38 lp G)) :=
  .mk at_f38 <| sf1 hL (an := an_f38 lp G) (fun _ _ => obs (by kernel_rfl)) fun call a0 H n k => by kernel_rfl
noncomputable def an_f39 (lp : LpT) (G : Roms) (call : CallT) (k : KV) : An := (.s .n (.s .n (.s .n (.s .n (.j (fun R=>s_f39_j16 lp G call k (rg R q0) (rg R q2) (rg R q3)) .n (.s .n (.j (fun R=>s_f39_j19 lp G call k (rg R q0) (rg R q2) (rg R q3)) (.b (.l _ (s_f39_l34b lp G call k) (fun R H n=>(rg R q0, rg R q2, rg R q3, H, n)) fun ih34=>.n)) (.j (fun R=>s_f39_j20 lp G call k (rg R q2) (rg R q3)) .n .n))))))))
theorem si_f39 {lp : LpT} (hL : LpOk lp) (G : Roms) : Ok1 G 39 (ar1 (s_f39 lp G)) :=
  .mk at_f39 <| sf1 hL (an := an_f39 lp G) (fun _ _ => obs (by kernel_rfl)) fun call a0 H n k => by kernel_rfl
noncomputable def an_f40 (lp : LpT) (G : Roms) (call : CallT) (k : KV) : An := .n
theorem si_f40 {lp : LpT} (hL : LpOk lp) (G : Roms) : Ok1 G 40 (ar1 (s_f40 lp G)) :=
  .mk at_f40 <| sf1 hL (an := an_f40 lp G) (fun _ _ => obs (by kernel_rfl)) fun call a0 H n k => by kernel_rfl
noncomputable def an_f41 (lp : LpT) (G : Roms) (call : CallT) (k : KV) : An := (.s .n (.s .n (.j (fun R=>s_f41_j4 lp G call k) (.s .n (.b (.l _ (s_f41_l6b lp G call k) (fun R H n=>(rg R q0, rg R q1, rg R q12, rg R q13, H, n)) fun ih6=>.n))) .n)))
theorem si_f41 {lp : LpT} (hL : LpOk lp) (G : Roms) : Ok1 G 41 (ar2 (s_f41 lp G)) :=
  .mk at_f41 <| sf2 hL (an := an_f41 lp G) (fun _ _ => obs (by kernel_rfl)) fun call a0 a1 H n k => by kernel_rfl
noncomputable def an_f42 (lp : LpT) (G : Roms) (call : CallT) (k : KV) : An := (.s .n (.s .n (.j (fun R=>s_f42_j4 lp G call k) (.s .n (.b (.l _ (s_f42_l6b lp G call k) (fun R H n=>(rg R q1, rg R q2, rg R q15, rg R q16, rg R q17, H, n)) fun ih6=>.n))) .n)))
theorem si_f42 {lp : LpT} (hL : LpOk lp) (G : Roms) : Ok1 G 42 (ar3 (s_f42 lp G)) :=
  .mk at_f42 <| sf3 hL (an := an_f42 lp G) (fun _ _ => obs (by kernel_rfl)) fun call a0 a1 a2 H n k => by kernel_rfl
noncomputable def an_f43 (lp : LpT) (G : Roms) (call : CallT) (k : KV) : An := .n
theorem si_f43 {lp : LpT} (hL : LpOk lp) (G : Roms) : Ok1 G 43 (ar2 (s_f43 lp G)) :=
  .mk at_f43 <| sf2 hL (an := an_f43 lp G) (fun _ _ => obs (by kernel_rfl)) fun call a0 a1 H n k => by kernel_rfl
noncomputable def an_f44 (lp : LpT) (G : Roms) (call : CallT) (k : KV) : An := .n
theorem si_f44 {lp : LpT} (hL : LpOk lp) (G : Roms) : Ok1 G 44 (ar1 (s_f44 lp G)) :=
  .mk at_f44 <| sf1 hL (an := an_f44 lp G) (fun _ _ => obs (by kernel_rfl)) fun call a0 H n k => by kernel_rfl
noncomputable def an_f45 (lp : LpT) (G : Roms) (call : CallT) (k : KV) : An := (.s .n (.s .n (.j (fun R=>s_f45_j12 lp G call k (rg R q2) (rg R q3)) (.s .n (.b (.l _ (s_f45_l18b lp G call k) (fun R H n=>(rg R q2, rg R q3, rg R q14, rg R q15, rg R q16, H, n)) fun ih18=>.n))) .n)))
theorem si_f45 {lp : LpT} (hL : LpOk lp) (G : Roms) : Ok1 G 45 (ar1 (s_f45 lp G)) :=
  .mk at_f45 <| sf1 hL (an := an_f45 lp G) (fun _ _ => obs (by kernel_rfl)) fun call a0 H n k => by kernel_rfl
noncomputable def an_f46 (lp : LpT) (G : Roms) (call : CallT) (k : KV) : An := .n
theorem si_f46 {lp : LpT} (hL : LpOk lp) (G : Roms) : Ok1 G 46 (ar1 (s_f46 lp G)) :=
  .mk at_f46 <| sf1 hL (an := an_f46 lp G) (fun _ _ => obs (by kernel_rfl)) fun call a0 H n k => by kernel_rfl
noncomputable def an_f47 (lp : LpT) (G : Roms) (call : CallT) (k : KV) : An := (.s .n (.s .n (.j (fun R=>s_f47_j1 lp G call k (rg R q6)) (.b (.l _ (s_f47_l2b lp G call k) (fun R H n=>(rg R q0, rg R q1, rg R q6, H, n)) fun ih2=>.n)) .n)))
theorem si_f47 {lp : LpT} (hL : LpOk lp) (G : Roms) : Ok1 G 47 (ar2 (s_f47 lp G)) :=
  .mk at_f47 <| sf2 hL (an := an_f47 lp G) (fun _ _ => obs (by kernel_rfl)) fun call a0 a1 H n k => by kernel_rfl
noncomputable def an_f48 (lp : LpT) (G : Roms) (call : CallT) (k : KV) : An := .n
theorem si_f48 {lp : LpT} (hL : LpOk lp) (G : Roms) : Ok1 G 48 (ar2 (s_f48 lp G)) :=
  .mk at_f48 <| sf2 hL (an := an_f48 lp G) (fun _ _ => obs (by kernel_rfl)) fun call a0 a1 H n k => by kernel_rfl
noncomputable def an_f49 (lp : LpT) (G : Roms) (call : CallT) (k : KV) : An := (.s .n (.j (fun R=>s_f49_j2 lp G call k (rg R q1)) (.s .n (.b (.l _ (s_f49_l29b lp G call k) (fun R H n=>(rg R q1, rg R q7, rg R q8, H, n)) fun ih29=>.n))) (.j (fun R=>s_f49_j3 lp G call k) (.s .n (.b (.l _ (s_f49_l7b lp G call k) (fun R H n=>(rg R q1, rg R q32, rg R q33, H, n)) fun ih7=>.n))) .n)))
theorem si_f49 {lp : LpT} (hL : LpOk lp) (G : Roms) : Ok1 G 49 (ar1 (s_f49 lp G)) :=
  .mk at_f49 <| sf1 hL (an := an_f49 lp G) (fun _ _ => obs (by kernel_rfl)) fun call a0 H n k => by kernel_rfl
noncomputable def an_f50 (lp : LpT) (G : Roms) (call : CallT) (k : KV) : An := (.s .n (.j (fun R=>s_f50_j1 lp G call k) (.s .n (.b (.l _ (s_f50_l3b lp G call k) (fun R H n=>(rg R q0, rg R q9, rg R q10, rg R q11, H, n)) fun ih3=>(.s .n (.s .n (.j (fun R=>s_f50_j5 lp G call k ih3 (rg R q0) (rg R q9) (rg R q10) (rg R q11)) .n .n)))))) .n))
theorem si_f50 {lp : LpT} (hL : LpOk lp) (G : Roms) : Ok1 G 50 (ar2 (s_f50 lp G)) :=
  .mk at_f50 <| sf2 hL (an := an_f50 lp G) (fun _ _ => obs (by kernel_rfl)) fun call a0 a1 H n k => by kernel_rfl
noncomputable def an_f51 (lp : LpT) (G : Roms) (call : CallT) (k : KV) : An := (.s .n (.s .n (.j (fun R=>s_f51_j5 lp G call k (rg R q7)) (.s .n (.b (.l _ (s_f51_l9b lp G call k) (fun R H n=>(rg R q0, rg R q2, rg R q7, rg R q23, rg R q24, rg R q25, H, n)) fun ih9=>.n))) .n)))
theorem si_f51 {lp : LpT} (hL : LpOk lp) (G : Roms) : Ok1 G 51 (ar3 (s_f51 lp G)) :=
  .mk at_f51 <| sf3 hL (an := an_f51 lp G) (fun _ _ => obs (by kernel_rfl)) fun call a0 a1 a2 H n k => by kernel_rfl
noncomputable def an_f52 (lp : LpT) (G : Roms) (call : CallT) (k : KV) : An := .n
theorem si_f52 {lp : LpT} (hL : LpOk lp) (G : Roms) : Ok1 G 52 (ar3 (s_f52 lp G)) :=
  .mk at_f52 <| sf3 hL (an := an_f52 lp G) (fun _ _ => obs (by kernel_rfl)) fun call a0 a1 a2 H n k => by kernel_rfl
noncomputable def an_f53 (lp : LpT) (G : Roms) (call : CallT) (k : KV) : An := (.s .n (.s .n (.s .n (.j (fun R=>s_f53_j6 lp G call k (rg R q0) (rg R q5) (rg R q6)) (.s .n (.b (.l _ (s_f53_l17b lp G call k) (fun R H n=>(rg R q0, rg R q5, rg R q6, rg R q15, rg R q16, rg R q17, H, n)) fun ih17=>.n))) .n))))
theorem si_f53 {lp : LpT} (hL : LpOk lp) (G : Roms) : Ok1 G 53 (ar2 (s_f53 lp G)) :=
  .mk at_f53 <| sf2 hL (an := an_f53 lp G) (fun _ _ => obs (by kernel_rfl)) fun call a0 a1 H n k => by kernel_rfl
noncomputable def an_f54 (lp : LpT) (G : Roms) (call : CallT) (k : KV) : An := (.s .n (.j (fun R=>s_f54_j3 lp G call k (rg R q4)) (.s .n (.b (.l _ (s_f54_l9b lp G call k) (fun R H n=>(rg R q1, rg R q4, rg R q9, rg R q10, rg R q11, H, n)) fun ih9=>.n))) .n))
theorem si_f54 {lp : LpT} (hL : LpOk lp) (G : Roms) : Ok1 G 54 (ar2 (s_f54 lp G)) :=
  .mk at_f54 <| sf2 hL (an := an_f54 lp G) (fun _ _ => obs (by kernel_rfl)) fun call a0 a1 H n k => by kernel_rfl
noncomputable def an_f55 (lp : LpT) (G : Roms) (call : CallT) (k : KV) : An := (.s .n (.j (fun R=>s_f55_j1 lp G call k) (.s .n (.b (.l _ (s_f55_l3b lp G call k) (fun R H n=>(rg R q0, rg R q1, rg R q7, rg R q8, H, n)) fun ih3=>.n))) .n))
theorem si_f55 {lp : LpT} (hL : LpOk lp) (G : Roms) : Ok1 G 55 (ar2 (s_f55 lp G)) :=
  .mk at_f55 <| sf2 hL (an := an_f55 lp G) (fun _ _ => obs (by kernel_rfl)) fun call a0 a1 H n k => by kernel_rfl
noncomputable def an_f56 (lp : LpT) (G : Roms) (call : CallT) (k : KV) : An := (.s .n (.j (fun R=>s_f56_j2 lp G call k (rg R q4)) .n .n))
theorem si_f56 {lp : LpT} (hL : LpOk lp) (G : Roms) : Ok1 G 56 (ar2 (s_f56 lp G)) :=
  .mk at_f56 <| sf2 hL (an := an_f56 lp G) (fun _ _ => obs (by kernel_rfl)) fun call a0 a1 H n k => by kernel_rfl
noncomputable def an_f57 (lp : LpT) (G : Roms) (call : CallT) (k : KV) : An := .n
theorem si_f57 {lp : LpT} (hL : LpOk lp) (G : Roms) : Ok1 G 57 (ar1 (s_f57 lp G)) :=
  .mk at_f57 <| sf1 hL (an := an_f57 lp G) (fun _ _ => obs (by kernel_rfl)) fun call a0 H n k => by kernel_rfl
noncomputable def an_f58 (lp : LpT) (G : Roms) (call : CallT) (k : KV) : An := (.s .n (.b (.l _ (s_f58_l2b lp G call k) (fun R H n=>(rg R q0, rg R q6, rg R q7, rg R q8, H, n)) fun ih2=>.n)))
theorem si_f58 {lp : LpT} (hL : LpOk lp) (G : Roms) : Ok1 G 58 (ar2 (s_f58 lp G)) :=
  .mk at_f58 <| sf2 hL (an := an_f58 lp G) (fun _ _ => obs (by kernel_rfl)) fun call a0 a1 H n k => by kernel_rfl
noncomputable def an_f59 (lp : LpT) (G : Roms) (call : CallT) (k : KV) : An := (.b (.l _ (s_f59_l1b lp G call k) (fun R H n=>(rg R q0, H, n)) fun ih1=>(.s .n (.b (.s .n (.b (.s .n (.c .n (.s .n (.c (.s .n (.j (fun R=>s_f59_j44 lp G call k ih1 (rg R q0) (rg R q3)) .n .n)) .n))))))))))
theorem si_f59 {lp : LpT} (hL : LpOk lp) (G : Roms) : Ok1 G 59 (ar1 (s_f59 lp G)) :=
  .mk at_f59 <| sf1 hL (an := an_f59 lp G) (fun _ _ => obs (by kernel_rfl)) fun call a0 H n k => by kernel_rfl
noncomputable def an_f60 (lp : LpT) (G : Roms) (call : CallT) (k : KV) : An := (.s .n (.s .n (.s .n (.s .n (.j (fun R=>s_f60_j25 lp G call k (rg R q0) (rg R q2) (rg R q4)) (.b (.s .n (.c .n (.s .n (.c .n (.s .n (.c .n (.s .n (.b (.l _ (s_f60_l81b lp G call k) (fun R H n=>(rg R q0, rg R q2, rg R q4, rg R q34, rg R q35, H, n)) fun ih81=>.n)))))))))) .n)))))
theorem si_f60 {lp : LpT} (hL : LpOk lp) (G : Roms) : Ok1 G 60 (ar1 (s_f60 lp G)) :=
  .mk at_f60 <| sf1 hL (an := an_f60 lp G) (fun _ _ => obs (by kernel_rfl)) fun call a0 H n k => by kernel_rfl
noncomputable def an_f61 (lp : LpT) (G : Roms) (call : CallT) (k : KV) : An := (.s .n (.b (.l _ (s_f61_l2b lp G call k) (fun R H n=>(rg R q0, rg R q6, rg R q7, rg R q8, H, n)) fun ih2=>(.s .n (.s .n (.j (fun R=>s_f61_j4 lp G call k ih2 (rg R q0) (rg R q6) (rg R q7) (rg R q8)) .n .n))))))
theorem si_f61 {lp : LpT} (hL : LpOk lp) (G : Roms) : Ok1 G 61 (ar2 (s_f61 lp G)) :=
  .mk at_f61 <| sf2 hL (an := an_f61 lp G) (fun _ _ => obs (by kernel_rfl)) fun call a0 a1 H n k => by kernel_rfl
noncomputable def an_f62 (lp : LpT) (G : Roms) (call : CallT) (k : KV) : An := .n
theorem si_f62 {lp : LpT} (hL : LpOk lp) (G : Roms) : Ok1 G 62 (ar2 (s_f62 lp G)) :=
  .mk at_f62 <| sf2 hL (an := an_f62 lp G) (fun _ _ => obs (by kernel_rfl)) fun call a0 a1 H n k => by kernel_rfl
noncomputable def an_f63 (lp : LpT) (G : Roms) (call : CallT) (k : KV) : An := .n
theorem si_f63 {lp : LpT} (hL : LpOk lp) (G : Roms) : Ok1 G 63 (ar2 (s_f63 lp G)) :=
  .mk at_f63 <| sf2 hL (an := an_f63 lp G) (fun _ _ => obs (by kernel_rfl)) fun call a0 a1 H n k => by kernel_rfl
noncomputable def an_f64 (lp : LpT) (G : Roms) (call : CallT) (k : KV) : An := (.s .n (.s .n (.j (fun R=>s_f64_j5 lp G call k (rg R q2) (rg R q3)) .n .n)))
theorem si_f64 {lp : LpT} (hL : LpOk lp) (G : Roms) : Ok1 G 64 (ar1 (s_f64 lp G)) :=
  .mk at_f64 <| sf1 hL (an := an_f64 lp G) (fun _ _ => obs (by kernel_rfl)) fun call a0 H n k => by kernel_rfl
noncomputable def an_f65 (lp : LpT) (G : Roms) (call : CallT) (k : KV) : An := .n
theorem si_f65 {lp : LpT} (hL : LpOk lp) (G : Roms) : Ok1 G 65 (ar2 (s_f65 lp G)) :=
  .mk at_f65 <| sf2 hL (an := an_f65 lp G) (fun _ _ => obs (by kernel_rfl)) fun call a0 a1 H n k => by kernel_rfl
noncomputable def an_f66 (lp : LpT) (G : Roms) (call : CallT) (k : KV) : An := (.s .n (.j (fun R=>s_f66_j1 lp G call k) (.s .n (.b (.l _ (s_f66_l3b lp G call k) (fun R H n=>(rg R q0, rg R q7, rg R q8, rg R q9, H, n)) fun ih3=>.n))) .n))
theorem si_f66 {lp : LpT} (hL : LpOk lp) (G : Roms) : Ok1 G 66 (ar2 (s_f66 lp G)) :=
  .mk at_f66 <| sf2 hL (an := an_f66 lp G) (fun _ _ => obs (by kernel_rfl)) fun call a0 a1 H n k => by kernel_rfl
noncomputable def an_f67 (lp : LpT) (G : Roms) (call : CallT) (k : KV) : An := (.s .n (.s .n (.s .n (.s .n (.s .n (.s .n (.s .n (.j (fun R=>s_f67_j25 lp G call k (rg R q0) (rg R q2) (rg R q4)) (.b (.l _ (s_f67_l31b lp G call k) (fun R H n=>(rg R q0, rg R q2, rg R q4, H, n)) fun ih31=>(.s .n (.b (.j (fun R=>s_f67_j37 lp G call k ih31 (rg R q0) (rg R q2) (rg R q4)) .n .n))))) .n))))))))
theorem si_f67 {lp : LpT} (hL : LpOk lp) (G : Roms) : Ok1 G 67 (ar1 (s_f67 lp G)) :=
  .mk at_f67 <| sf1 hL (an := an_f67 lp G) (fun _ _ => obs (by kernel_rfl)) fun call a0 H n k => by kernel_rfl
noncomputable def an_f68 (lp : LpT) (G : Roms) (call : CallT) (k : KV) : An := .n
theorem si_f68 {lp : LpT} (hL : LpOk lp) (G : Roms) : Ok1 G 68 (ar2 (s_f68 lp G)) :=
  .mk at_f68 <| sf2 hL (an := an_f68 lp G) (fun _ _ => obs (by kernel_rfl)) fun call a0 a1 H n k => by kernel_rfl
noncomputable def an_f69 (lp : LpT) (G : Roms) (call : CallT) (k : KV) : An := (.s .n (.s .n (.j (fun R=>s_f69_j4 lp G call k) (.s .n (.b (.l _ (s_f69_l6b lp G call k) (fun R H n=>(rg R q0, rg R q1, rg R q12, rg R q13, H, n)) fun ih6=>.n))) .n)))
theorem si_f69 {lp : LpT} (hL : LpOk lp) (G : Roms) : Ok1 G 69 (ar2 (s_f69 lp G)) :=
  .mk at_f69 <| sf2 hL (an := an_f69 lp G) (fun _ _ => obs (by kernel_rfl)) fun call a0 a1 H n k => by kernel_rfl
noncomputable def an_f70 (lp : LpT) (G : Roms) (call : CallT) (k : KV) : An := .n
theorem si_f70 {lp : LpT} (hL : LpOk lp) (G : Roms) : Ok1 G 70 (ar2 (s_f70 lp G)) :=
  .mk at_f70 <| sf2 hL (an := an_f70 lp G) (fun _ _ => obs (by kernel_rfl)) fun call a0 a1 H n k => by kernel_rfl
noncomputable def an_f71 (lp : LpT) (G : Roms) (call : CallT) (k : KV) : An := .n
theorem si_f71 {lp : LpT} (hL : LpOk lp) (G : Roms) : Ok1 G 71 (ar2 (s_f71 lp G)) :=
  .mk at_f71 <| sf2 hL (an := an_f71 lp G) (fun _ _ => obs (by kernel_rfl)) fun call a0 a1 H n k => by kernel_rfl
noncomputable def an_f72 (lp : LpT) (G : Roms) (call : CallT) (k : KV) : An := .n
theorem si_f72 {lp : LpT} (hL : LpOk lp) (G : Roms) : Ok1 G 72 (ar2 (s_f72 lp G)) :=
  .mk at_f72 <| sf2 hL (an := an_f72 lp G) (fun _ _ => obs (by kernel_rfl)) fun call a0 a1 H n k => by kernel_rfl
noncomputable def an_f73 (lp : LpT) (G : Roms) (call : CallT) (k : KV) : An := .n
theorem si_f73 {lp : LpT} (hL : LpOk lp) (G : Roms) : Ok1 G 73 (ar2 (s_f73 lp G)) :=
  .mk at_f73 <| sf2 hL (an := an_f73 lp G) (fun _ _ => obs (by kernel_rfl)) fun call a0 a1 H n k => by kernel_rfl
noncomputable def an_f74 (lp : LpT) (G : Roms) (call : CallT) (k : KV) : An := .n
theorem si_f74 {lp : LpT} (hL : LpOk lp) (G : Roms) : Ok1 G 74 (ar2 (s_f74 lp G)) :=
  .mk at_f74 <| sf2 hL (an := an_f74 lp G) (fun _ _ => obs (by kernel_rfl)) fun call a0 a1 H n k => by kernel_rfl
noncomputable def an_f75 (lp : LpT) (G : Roms) (call : CallT) (k : KV) : An := (.s .n (.j (fun R=>s_f75_j1 lp G call k) (.s .n (.b (.l _ (s_f75_l3b lp G call k) (fun R H n=>(rg R q0, rg R q1, rg R q7, rg R q8, H, n)) fun ih3=>.n))) .n))
theorem si_f75 {lp : LpT} (hL : LpOk lp) (G : Roms) : Ok1 G 75 (ar2 (s_f75 lp G)) :=
  .mk at_f75 <| sf2 hL (an := an_f75 lp G) (fun _ _ => obs (by kernel_rfl)) fun call a0 a1 H n k => by kernel_rfl
noncomputable def an_f76 (lp : LpT) (G : Roms) (call : CallT) (k : KV) : An := .n
theorem si_f76 {lp : LpT} (hL : LpOk lp) (G : Roms) : Ok1 G 76 (ar1 (s_f76 lp G)) :=
  .mk at_f76 <| sf1 hL (an := an_f76 lp G) (fun _ _ => obs (by kernel_rfl)) fun call a0 H n k => by kernel_rfl
noncomputable def an_f77 (lp : LpT) (G : Roms) (call : CallT) (k : KV) : An := .n
theorem si_f77 {lp : LpT} (hL : LpOk lp) (G : Roms) : Ok1 G 77 (ar1 (s_f77 lp G)) :=
  .mk at_f77 <| sf1 hL (an := an_f77 lp G) (fun _ _ => obs (by kernel_rfl)) fun call a0 H n k => by kernel_rfl
noncomputable def an_f78 (lp : LpT) (G : Roms) (call : CallT) (k : KV) : An := .n
theorem si_f78 {lp : LpT} (hL : LpOk lp) (G : Roms) : Ok1 G 78 (ar1 (s_f78 lp G)) :=
  .mk at_f78 <| sf1 hL (an := an_f78 lp G) (fun _ _ => obs (by kernel_rfl)) fun call a0 H n k => by kernel_rfl
noncomputable def an_f79 (lp : LpT) (G : Roms) (call : CallT) (k : KV) : An := (.s .n (.j (fun R=>s_f79_j3 lp G call k (rg R q4)) (.s .n (.b (.l _ (s_f79_l9b lp G call k) (fun R H n=>(rg R q1, rg R q4, rg R q9, rg R q10, rg R q11, H, n)) fun ih9=>.n))) .n))
theorem si_f79 {lp : LpT} (hL : LpOk lp) (G : Roms) : Ok1 G 79 (ar2 (s_f79 lp G)) :=
  .mk at_f79 <| sf2 hL (an := an_f79 lp G) (fun _ _ => obs (by kernel_rfl)) fun call a0 a1 H n k => by kernel_rfl
noncomputable def an_f80 (lp : LpT) (G : Roms) (call : CallT) (k : KV) : An := (.s .n (.j (fun R=>s_f80_j2 lp G call k (rg R q4)) (.s .n (.b (.l _ (s_f80_l9b lp G call k) (fun R H n=>(rg R q1, rg R q4, rg R q11, rg R q12, rg R q13, H, n)) fun ih9=>.n))) .n))
theorem si_f80 {lp : LpT} (hL : LpOk lp) (G : Roms) : Ok1 G 80 (ar2 (s_f80 lp G)) :=
  .mk at_f80 <| sf2 hL (an := an_f80 lp G) (fun _ _ => obs (by kernel_rfl)) fun call a0 a1 H n k => by kernel_rfl
noncomputable def an_f81 (lp : LpT) (G : Roms) (call : CallT) (k : KV) : An := (.s .n (.j (fun R=>s_f81_j2 lp G call k (rg R q0)) .n .n))
theorem si_f81 {lp : LpT} (hL : LpOk lp) (G : Roms) : Ok1 G 81 (ar4 (s_f81 lp G)) :=
  .mk at_f81 <| sf4 hL (an := an_f81 lp G) (fun _ _ => obs (by kernel_rfl)) fun call a0 a1 a2 a3 H n k => by kernel_rfl
noncomputable def an_f82 (lp : LpT) (G : Roms) (call : CallT) (k : KV) : An := (.s .n (.s .n (.s .n (.s .n (.j (fun R=>s_f82_j34 lp G call k (rg R q0) (rg R q3) (rg R q4)) (.s .n (.b (.l _ (s_f82_l130b lp G call k) (fun R H n=>(rg R q0, rg R q3, rg R q4, rg R q39, rg R q40, rg R q41, H, n)) fun ih130=>.n))) (.s .n (.s .n (.j (fun R=>s_f82_j48 lp G call k (rg R q3) (rg R q4)) (.s .n (.b (.s .n (.c .n (.s .n (.c .n (.j (fun R=>s_f82_j91 lp G call k (rg R q0) (rg R q3) (rg R q4) (rg R q7) (rg R q66) (rg R q112)) .n .n))))))) .n))))))))
theorem si_f82 {lp : LpT} (hL : LpOk lp) (G : Roms) : Ok1 G 82 (ar2 (s_f82 lp G)) :=
  .mk at_f82 <| sf2 hL (an := an_f82 lp G) (fun _ _ => obs (by kernel_rfl)) fun call a0 a1 H n k => by kernel_rfl
noncomputable def an_f83 (lp : LpT) (G : Roms) (call : CallT) (k : KV) : An := (.s .n (.j (fun R=>s_f83_j1 lp G call k (rg R q0)) .n .n))
theorem si_f83 {lp : LpT} (hL : LpOk lp) (G : Roms) : Ok1 G 83 (ar1 (s_f83 lp G)) :=
  .mk at_f83 <| sf1 hL (an := an_f83 lp G) (fun _ _ => obs (by kernel_rfl)) fun call a0 H n k => by kernel_rfl
noncomputable def an_f84 (lp : LpT) (G : Roms) (call : CallT) (k : KV) : An := (.s .n (.j (fun R=>s_f84_j2 lp G call k (rg R q0) (rg R q3)) (.s .n (.b (.s .n (.c .n (.s .n (.c (.s (.b (.l _ (s_f84_l75b lp G call k) (fun R H n=>(rg R q0, rg R q3, H, n)) fun ih75=>.n)) .n) .n)))))) .n))
theorem si_f84 {lp : LpT} (hL : LpOk lp) (G : Roms) : Ok1 G 84 (ar2 (s_f84 lp G)) :=
  .mk at_f84 <| sf2 hL (an := an_f84 lp G) (fun _ _ => obs (by kernel_rfl)) fun call a0 a1 H n k => by kernel_rfl
noncomputable def an_f85 (lp : LpT) (G : Roms) (call : CallT) (k : KV) : An := (.s .n (.b (.l _ (s_f85_l1b lp G call k) (fun R H n=>(rg R q0, rg R q4, rg R q5, H, n)) fun ih1=>(.s .n (.s .n (.s (.b (.s .n (.j (fun R=>s_f85_j12 lp G call k ih1 (rg R q0) (rg R q4) (rg R q5)) .n .n))) .n))))))
theorem si_f85 {lp : LpT} (hL : LpOk lp) (G : Roms) : Ok1 G 85 (ar2 (s_f85 lp G)) :=
  .mk at_f85 <| sf2 hL (an := an_f85 lp G) (fun _ _ => obs (by kernel_rfl)) fun call a0 a1 H n k => by kernel_rfl
noncomputable def an_f86 (lp : LpT) (G : Roms) (call : CallT) (k : KV) : An := .n
theorem si_f86 {lp : LpT} (hL : LpOk lp) (G : Roms) : Ok1 G 86 (ar2 (s_f86 lp G)) :=
  .mk at_f86 <| sf2 hL (an := an_f86 lp G) (fun _ _ => obs (by kernel_rfl)) fun call a0 a1 H n k => by kernel_rfl
noncomputable def an_f87 (lp : LpT) (G : Roms) (call : CallT) (k : KV) : An := .n
theorem si_f87 {lp : LpT} (hL : LpOk lp) (G : Roms) : Ok1 G 87 (ar2 (s_f87 lp G)) :=
  .mk at_f87 <| sf2 hL (an := an_f87 lp G) (fun _ _ => obs (by kernel_rfl)) fun call a0 a1 H n k => by kernel_rfl
noncomputable def an_f88 (lp : LpT) (G : Roms) (call : CallT) (k : KV) : An := .n
theorem si_f88 {lp : LpT} (hL : LpOk lp) (G : Roms) : Ok1 G 88 (ar1 (s_f88 lp G)) :=
  .mk at_f88 <| sf1 hL (an := an_f88 lp G) (fun _ _ => obs (by kernel_rfl)) fun call a0 H n k => by kernel_rfl
noncomputable def an_f89 (lp : LpT) (G : Roms) (call : CallT) (k : KV) : An := (.s .n (.s .n (.j (fun R=>s_f89_j1 lp G call k (rg R q0) (rg R q5)) (.b (.l _ (s_f89_l13b lp G call k) (fun R H n=>(rg R q0, rg R q1, rg R q5, H, n)) fun ih13=>.n)) .n)))
theorem si_f89 {lp : LpT} (hL : LpOk lp) (G : Roms) : Ok1 G 89 (ar2 (s_f89 lp G)) :=
  .mk at_f89 <| sf2 hL (an := an_f89 lp G) (fun _ _ => obs (by kernel_rfl)) fun call a0 a1 H n k => by kernel_rfl
noncomputable def an_f90 (lp : LpT) (G : Roms) (call : CallT) (k : KV) : An := .n
theorem si_f90 {lp : LpT} (hL : LpOk lp) (G : Roms) : Ok1 G 90 (ar1 (s_f90 lp G)) :=
  .mk at_f90 <| sf1 hL (an := an_f90 lp G) (fun _ _ => obs (by kernel_rfl)) fun call a0 H n k => by kernel_rfl
noncomputable def an_f91 (lp : LpT) (G : Roms) (call : CallT) (k : KV) : An := .n
theorem si_f91 {lp : LpT} (hL : LpOk lp) (G : Roms) : Ok1 G 91 (ar1 (s_f91 lp G)) :=
  .mk at_f91 <| sf1 hL (an := an_f91 lp G) (fun _ _ => obs (by kernel_rfl)) fun call a0 H n k => by kernel_rfl
noncomputable def an_f92 (lp : LpT) (G : Roms) (call : CallT) (k : KV) : An := (.s .n (.s (.s .n (.b (.j (fun R=>s_f92_j1 lp G call k (rg R q4)) .n .n))) .n))
theorem si_f92 {lp : LpT} (hL : LpOk lp) (G : Roms) : Ok1 G 92 (ar1 (s_f92 lp G)) :=
  .mk at_f92 <| sf1 hL (an := an_f92 lp G) (fun _ _ => obs (by kernel_rfl)) fun call a0 H n k => by kernel_rfl
noncomputable def an_f93 (lp : LpT) (G : Roms) (call : CallT) (k : KV) : An := .n
theorem si_f93 {lp : LpT} (hL : LpOk lp) (G : Roms) : Ok1 G 93 (ar1 (s_f93 lp G)) :=
  .mk at_f93 <| sf1 hL (an := an_f93 lp G) (fun _ _ => obs (by kernel_rfl)) fun call a0 H n k => by kernel_rfl
noncomputable def an_f94 (lp : LpT) (G : Roms) (call : CallT) (k : KV) : An := (.s .n (.s .n (.j (fun R=>s_f94_j1 lp G call k (rg R q4)) (.s .n (.b (.l _ (s_f94_l4b lp G call k) (fun R H n=>(rg R q4, rg R q8, rg R q9, rg R q10, H, n)) fun ih4=>.n))) .n)))
theorem si_f94 {lp : LpT} (hL : LpOk lp) (G : Roms) : Ok1 G 94 (ar1 (s_f94 lp G)) :=
  .mk at_f94 <| sf1 hL (an := an_f94 lp G) (fun _ _ => obs (by kernel_rfl)) fun call a0 H n k => by kernel_rfl
noncomputable def an_f95 (lp : LpT) (G : Roms) (call : CallT) (k : KV) : An := (.s .n (.s .n (.j (fun R=>s_f95_j9 lp G call k (rg R q2) (rg R q3)) .n .n)))
theorem si_f95 {lp : LpT} (hL : LpOk lp) (G : Roms) : Ok1 G 95 (ar1 (s_f95 lp G)) :=
  .mk at_f95 <| sf1 hL (an := an_f95 lp G) (fun _ _ => obs (by kernel_rfl)) fun call a0 H n k => by kernel_rfl
noncomputable def an_f96 (lp : LpT) (G : Roms) (call : CallT) (k : KV) : An := .n
theorem si_f96 {lp : LpT} (hL : LpOk lp) (G : Roms) : Ok1 G 96 (ar1 (s_f96 lp G)) :=
  .mk at_f96 <| sf1 hL (an := an_f96 lp G) (fun _ _ => obs (by kernel_rfl)) fun call a0 H n k => by kernel_rfl
noncomputable def an_f97 (lp : LpT) (G : Roms) (call : CallT) (k : KV) : An := (.s .n (.s .n (.s .n (.s .n (.j (fun R=>s_f97_j5 lp G call k (rg R q3) (rg R q22)) (.b (.l _ (s_f97_l6b lp G call k) (fun R H n=>(rg R q0, rg R q3, rg R q22, H, n)) fun ih6=>.n)) .n)))))
theorem si_f97 {lp : LpT} (hL : LpOk lp) (G : Roms) : Ok1 G 97 (ar1 (s_f97 lp G)) :=
  .mk at_f97 <| sf1 hL (an := an_f97 lp G) (fun _ _ => obs (by kernel_rfl)) fun call a0 H n k => by kernel_rfl
noncomputable def an_f98 (lp : LpT) (G : Roms) (call : CallT) (k : KV) : An := (.s .n (.s .n (.j (fun R=>s_f98_j1 lp G call k (rg R q0) (rg R q1) (rg R q2) (rg R q6) (rg R q7)) (.b (.l _ (s_f98_l18b lp G call k) (fun R H n=>(rg R q0, rg R q1, rg R q2, rg R q6, rg R q7, rg R q8, H, n)) fun ih18=>.n)) (.s .n (.b (.l _ (s_f98_l3b lp G call k) (fun R H n=>(rg R q0, rg R q1, rg R q2, rg R q6, H, n)) fun ih3=>(.s .n (.b (.s .n (.j (fun R=>s_f98_j6 lp G call k ih3 (rg R q0) (rg R q1) (rg R q2) (rg R q6) (rg R q7)) (.b (.l _ (s_f98_l12b lp G call k ih3) (fun R H n=>(rg R q0, rg R q1, rg R q2, rg R q6, rg R q7, rg R q8, H, n)) fun ih12=>.n)) (.j (fun R=>s_f98_j7 lp G call k ih3 (rg R q0) (rg R q1) (rg R q2) (rg R q6)) .n .n)))))))))))
theorem si_f98 {lp : LpT} (hL : LpOk lp) (G : Roms) : Ok1 G 98 (ar3 (s_f98 lp G)) :=
  .mk at_f98 <| sf3 hL (an := an_f98 lp G) (fun _ _ => obs (by kernel_rfl)) fun call a0 a1 a2 H n k => by kernel_rfl
noncomputable def an_f99 (lp : LpT) (G : Roms) (call : CallT) (k : KV) : An := .n
theorem si_f99 {lp : LpT} (hL : LpOk lp) (G : Roms) : Ok1 G 99 (ar2 (s_f99 lp G)) :=
  .mk at_f99 <| sf2 hL (an := an_f99 lp G) (fun _ _ => obs (by kernel_rfl)) fun call a0 a1 H n k => by kernel_rfl
noncomputable def an_f100 (lp : LpT) (G : Roms) (call : CallT) (k : KV) : An := (.s .n (.s .n (.j (fun R=>s_f100_j1 lp G call k (rg R q0) (rg R q1) (rg R q2) (rg R q6) (rg R q7)) (.b (.l _ (s_f100_l18b lp G call k) (fun R H n=>(rg R q0, rg R q1, rg R q2, rg R q6, rg R q7, rg R q8, H, n)) fun ih18=>.n)) (.s .n (.b (.l _ (s_f100_l3b lp G call k) (fun R H n=>(rg R q0, rg R q1, rg R q2, rg R q6, H, n)) fun ih3=>(.s .n (.b (.s .n (.j (fun R=>s_f100_j6 lp G call k ih3 (rg R q0) (rg R q1) (rg R q2) (rg R q6) (rg R q7)) (.b (.l _ (s_f100_l12b lp G call k ih3) (fun R H n=>(rg R q0, rg R q1, rg R q2, rg R q6, rg R q7, rg R q8, H, n)) fun ih12=>.n)) (.j (fun R=>s_f100_j7 lp G call k ih3 (rg R q0) (rg R q1) (rg R q2) (rg R q6)) .n .n)))))))))))
theorem si_f100 {lp : LpT} (hL : LpOk lp) (G : Roms) : Ok1 G 100 (ar3 (s_f100 lp G)) :=
  .mk at_f100 <| sf3 hL (an := an_f100 lp G) (fun _ _ => obs (by kernel_rfl)) fun call a0 a1 a2 H n k => by kernel_rfl
noncomputable def an_f101 (lp : LpT) (G : Roms) (call : CallT) (k : KV) : An := .n
theorem si_f101 {lp : LpT} (hL : LpOk lp) (G : Roms) : Ok1 G 101 (ar3 (s_f101 lp G)) :=
  .mk at_f101 <| sf3 hL (an := an_f101 lp G) (fun _ _ => obs (by kernel_rfl)) fun call a0 a1 a2 H n k => by kernel_rfl
noncomputable def an_f102 (lp : LpT) (G : Roms) (call : CallT) (k : KV) : An := .n
theorem si_f102 {lp : LpT} (hL : LpOk lp) (G : Roms) : Ok1 G 102 (ar1 (s_f102 lp G)) :=
  .mk at_f102 <| sf1 hL (an := an_f102 lp G) (fun _ _ => obs (by kernel_rfl)) fun call a0 H n k => by kernel_rfl
noncomputable def an_f103 (lp : LpT) (G : Roms) (call : CallT) (k : KV) : An := (.s .n (.s .n (.j (fun R=>s_f103_j7 lp G call k (rg R q3) (rg R q4)) (.s .n (.b (.s .n (.c .n (.j (fun R=>s_f103_j16 lp G call k (rg R q0) (rg R q3) (rg R q4) (rg R q12) (rg R q19)) .n (.c .n (.s .n (.c .n (.s .n (.c .n (.s .n (.c .n (.j (fun R=>s_f103_j56 lp G call k (rg R q0) (rg R q3) (rg R q4) (rg R q12) (rg R q65)) .n (.c .n (.s .n (.c .n (.s .n (.c (.j (fun R=>s_f103_j74 lp G call k (rg R q3) (rg R q4)) .n .n) (.s .n (.c (.j (fun R=>s_f103_j96 lp G call k (rg R q3) (rg R q4)) .n .n) .n)))))))))))))))))))) .n)))
theorem si_f103 {lp : LpT} (hL : LpOk lp) (G : Roms) : Ok1 G 103 (ar2 (s_f103 lp G)) :=
  .mk at_f103 <| sf2 hL (an := an_f103 lp G) (fun _ _ => obs (by kernel_rfl)) fun call a0 a1 H n k => by kernel_rfl
noncomputable def an_f104 (lp : LpT) (G : Roms) (call : CallT) (k : KV) : An := .n
theorem si_f104 {lp : LpT} (hL : LpOk lp) (G : Roms) : Ok1 G 104 (ar3 (s_f104 lp G)) :=
  .mk at_f104 <| sf3 hL (an := an_f104 lp G) (fun _ _ => obs (by kernel_rfl)) fun call a0 a1 a2 H n k => by kernel_rfl
noncomputable def an_f105 (lp : LpT) (G : Roms) (call : CallT) (k : KV) : An := (.s .n (.j (fun R=>s_f105_j2 lp G call k) (.s .n (.b (.l _ (s_f105_l4b lp G call k) (fun R H n=>(rg R q0, rg R q5, rg R q9, rg R q10, rg R q11, H, n)) fun ih4=>.n))) .n))
theorem si_f105 {lp : LpT} (hL : LpOk lp) (G : Roms) : Ok1 G 105 (ar3 (s_f105 lp G)) :=
  .mk at_f105 <| sf3 hL (an := an_f105 lp G) (fun _ _ => obs (by kernel_rfl)) fun call a0 a1 a2 H n k => by kernel_rfl
noncomputable def an_f106 (lp : LpT) (G : Roms) (call : CallT) (k : KV) : An := .n
theorem si_f106 {lp : LpT} (hL : LpOk lp) (G : Roms) : Ok1 G 106 (ar0 (s_f106 lp G)) :=
  .mk at_f106 <| sf0 hL (an := an_f106 lp G) (fun _ _ => obs (by kernel_rfl)) fun call  H n k => by kernel_rfl
noncomputable def an_f107 (lp : LpT) (G : Roms) (call : CallT) (k : KV) : An := (.s .n (.s .n (.j (fun R=>s_f107_j6 lp G call k (rg R q0) (rg R q4) (rg R q5) (rg R q6)) .n .n)))
theorem si_f107 {lp : LpT} (hL : LpOk lp) (G : Roms) : Ok1 G 107 (ar3 (s_f107 lp G)) :=
  .mk at_f107 <| sf3 hL (an := an_f107 lp G) (fun _ _ => obs (by kernel_rfl)) fun call a0 a1 a2 H n k => by kernel_rfl
noncomputable def an_f108 (lp : LpT) (G : Roms) (call : CallT) (k : KV) : An := (.s .n (.s .n (.s (.s .n (.b (.s .n (.c .n (.s .n (.c .n (.s .n (.c .n (.s .n (.c .n (.s .n (.c .n (.j (fun R=>s_f108_j43 lp G call k (rg R q0) (rg R q3) (rg R q4) (rg R q50)) .n .n))))))))))))) .n)))
theorem si_f108 {lp : LpT} (hL : LpOk lp) (G : Roms) : Ok1 G 108 (ar2 (s_f108 lp G)) :=
  .mk at_f108 <| sf2 hL (an := an_f108 lp G) (fun _ _ => obs (by kernel_rfl)) fun call a0 a1 H n k => by kernel_rfl
noncomputable def an_f109 (lp : LpT) (G : Roms) (call : CallT) (k : KV) : An := .n
theorem si_f109 {lp : LpT} (hL : LpOk lp) (G : Roms) : Ok1 G 109 (ar2 (s_f109 lp G)) :=
  .mk at_f109 <| sf2 hL (an := an_f109 lp G) (fun _ _ => obs (by kernel_rfl)) fun call a0 a1 H n k => by kernel_rfl
noncomputable def an_f110 (lp : LpT) (G : Roms) (call : CallT) (k : KV) : An := .n
theorem si_f110 {lp : LpT} (hL : LpOk lp) (G : Roms) : Ok1 G 110 (ar2 (s_f110 lp G)) :=
  .mk at_f110 <| sf2 hL (an := an_f110 lp G) (fun _ _ => obs (by kernel_rfl)) fun call a0 a1 H n k => by kernel_rfl
noncomputable def an_f111 (lp : LpT) (G : Roms) (call : CallT) (k : KV) : An := (.s .n (.j (fun R=>s_f111_j2 lp G call k (rg R q1)) .n .n))
theorem si_f111 {lp : LpT} (hL : LpOk lp) (G : Roms) : Ok1 G 111 (ar1 (s_f111 lp G)) :=
  .mk at_f111 <| sf1 hL (an := an_f111 lp G) (fun _ _ => obs (by kernel_rfl)) fun call a0 H n k => by kernel_rfl
noncomputable def an_f112 (lp : LpT) (G : Roms) (call : CallT) (k : KV) : An := (.s .n (.s .n (.j (fun R=>s_f112_j11 lp G call k (rg R q0) (rg R q2) (rg R q3)) .n .n)))
theorem si_f112 {lp : LpT} (hL : LpOk lp) (G : Roms) : Ok1 G 112 (ar1 (s_f112 lp G)) :=
  .mk at_f112 <| sf1 hL (an := an_f112 lp G) (fun _ _ => obs (by kernel_rfl)) fun call a0 H n k => by kernel_rfl
noncomputable def an_f113 (lp : LpT) (G : Roms) (call : CallT) (k : KV) : An := (.s .n (.b (.l _ (s_f113_l2b lp G call k) (fun R H n=>(rg R q0, rg R q1, rg R q2, rg R q3, rg R q8, H, n)) fun ih2=>(.s .n (.j (fun R=>s_f113_j4 lp G call k ih2 (rg R q0) (rg R q1) (rg R q2) (rg R q3) (rg R q8)) (.b (.s .n (.b (.l _ (s_f113_l6b lp G call k ih2) (fun R H n=>(rg R q0, rg R q1, rg R q2, rg R q3, rg R q8, rg R q9, H, n)) fun ih6=>.n)))) .n)))))
theorem si_f113 {lp : LpT} (hL : LpOk lp) (G : Roms) : Ok1 G 113 (ar4 (s_f113 lp G)) :=
  .mk at_f113 <| sf4 hL (an := an_f113 lp G) (fun _ _ => obs (by kernel_rfl)) fun call a0 a1 a2 a3 H n k => by kernel_rfl
noncomputable def an_f114 (lp : LpT) (G : Roms) (call : CallT) (k : KV) : An := (.j (fun R=>s_f114_j1 lp G call k (rg R q0) (rg R q1) (rg R q2) (rg R q3) (rg R q4)) (.s .n (.c (.s .n (.s .n (.j (fun R=>s_f114_j81 lp G call k (rg R q0) (rg R q1) (rg R q10)) (.b (.l _ (s_f114_l96b lp G call k) (fun R H n=>(rg R q0, rg R q1, rg R q4, rg R q10, rg R q11, H, n)) fun ih96=>.n)) (.s (.s .n (.b (.l _ (s_f114_l82b lp G call k) (fun R H n=>(rg R q0, rg R q10, rg R q13, H, n)) fun ih82=>.n))) .n)))) .n)) (.j (fun R=>s_f114_j2 lp G call k (rg R q0) (rg R q1) (rg R q2) (rg R q3) (rg R q4)) (.s .n (.c (.s .n (.s .n (.j (fun R=>s_f114_j51 lp G call k (rg R q0) (rg R q2) (rg R q14)) (.b (.l _ (s_f114_l65b lp G call k) (fun R H n=>(rg R q0, rg R q2, rg R q4, rg R q14, rg R q15, H, n)) fun ih65=>.n)) (.s (.s .n (.b (.l _ (s_f114_l52b lp G call k) (fun R H n=>(rg R q0, rg R q14, rg R q17, H, n)) fun ih52=>.n))) .n)))) .n)) (.s .n (.s .n (.s .n (.j (fun R=>s_f114_j8 lp G call k (rg R q0) (rg R q1) (rg R q2) (rg R q3) (rg R q4) (rg R q18) (rg R q19) (rg R q20) (rg R q21)) .n (.s .n (.j (fun R=>s_f114_j10 lp G call k (rg R q0) (rg R q1) (rg R q2) (rg R q3) (rg R q4) (rg R q18) (rg R q19) (rg R q20)) (.b (.l _ (s_f114_l32b lp G call k) (fun R H n=>(rg R q0, rg R q1, rg R q2, rg R q3, rg R q4, rg R q18, rg R q19, rg R q20, rg R q21, rg R q22, H, n)) fun ih32=>.n)) (.s .n (.j (fun R=>s_f114_j12 lp G call k (rg R q0) (rg R q1) (rg R q3) (rg R q4) (rg R q18) (rg R q20) (rg R q24)) .n (.j (fun R=>s_f114_j13 lp G call k (rg R q0) (rg R q3) (rg R q4) (rg R q18) (rg R q24)) .n .n)))))))))))
theorem si_f114 {lp : LpT} (hL : LpOk lp) (G : Roms) : Ok1 G 114 (ar5 (s_f114 lp G)) :=
  .mk at_f114 <| sf5 hL (an := an_f114 lp G) (fun _ _ => obs (by kernel_rfl)) fun call a0 a1 a2 a3 a4 H n k => by kernel_rfl
noncomputable def an_f116 (lp : LpT) (G : Roms) (call : CallT) (k : KV) : An := (.s .n (.b (.l _ (s_f116_l2b lp G call k) (fun R H n=>(rg R q0, rg R q1, rg R q2, rg R q3, rg R q8, H, n)) fun ih2=>(.s .n (.j (fun R=>s_f116_j4 lp G call k ih2 (rg R q0) (rg R q1) (rg R q2) (rg R q3) (rg R q8)) (.b (.s .n (.b (.l _ (s_f116_l6b lp G call k ih2) (fun R H n=>(rg R q0, rg R q1, rg R q2, rg R q3, rg R q8, rg R q9, H, n)) fun ih6=>.n)))) .n)))))
theorem si_f116 {lp : LpT} (hL : LpOk lp) (G : Roms) : Ok1 G 116 (ar4 (s_f116 lp G)) :=
  .mk at_f116 <| sf4 hL (an := an_f116 lp G) (fun _ _ => obs (by kernel_rfl)) fun call a0 a1 a2 a3 H n k => by kernel_rfl
noncomputable def an_f117 (lp : LpT) (G : Roms) (call : CallT) (k : KV) : An := (.j (fun R=>s_f117_j1 lp G call k (rg R q0) (rg R q1) (rg R q2) (rg R q3) (rg R q4)) (.s .n (.c (.s .n (.s .n (.j (fun R=>s_f117_j81 lp G call k (rg R q0) (rg R q1) (rg R q10)) (.b (.l _ (s_f117_l96b lp G call k) (fun R H n=>(rg R q0, rg R q1, rg R q4, rg R q10, rg R q11, H, n)) fun ih96=>.n)) (.s (.s .n (.b (.l _ (s_f117_l82b lp G call k) (fun R H n=>(rg R q0, rg R q10, rg R q13, H, n)) fun ih82=>.n))) .n)))) .n)) (.j (fun R=>s_f117_j2 lp G call k (rg R q0) (rg R q1) (rg R q2) (rg R q3) (rg R q4)) (.s .n (.c (.s .n (.s .n (.j (fun R=>s_f117_j51 lp G call k (rg R q0) (rg R q2) (rg R q14)) (.b (.l _ (s_f117_l65b lp G call k) (fun R H n=>(rg R q0, rg R q2, rg R q4, rg R q14, rg R q15, H, n)) fun ih65=>.n)) (.s (.s .n (.b (.l _ (s_f117_l52b lp G call k) (fun R H n=>(rg R q0, rg R q14, rg R q17, H, n)) fun ih52=>.n))) .n)))) .n)) (.s .n (.s .n (.s .n (.j (fun R=>s_f117_j8 lp G call k (rg R q0) (rg R q1) (rg R q2) (rg R q3) (rg R q4) (rg R q18) (rg R q19) (rg R q20) (rg R q21)) .n (.s .n (.j (fun R=>s_f117_j10 lp G call k (rg R q0) (rg R q1) (rg R q2) (rg R q3) (rg R q4) (rg R q18) (rg R q19) (rg R q20)) (.b (.l _ (s_f117_l32b lp G call k) (fun R H n=>(rg R q0, rg R q1, rg R q2, rg R q3, rg R q4, rg R q18, rg R q19, rg R q20, rg R q21, rg R q22, H, n)) fun ih32=>.n)) (.s .n (.j (fun R=>s_f117_j12 lp G call k (rg R q0) (rg R q1) (rg R q3) (rg R q4) (rg R q18) (rg R q20) (rg R q24)) .n (.j (fun R=>s_f117_j13 lp G call k (rg R q0) (rg R q3) (rg R q4) (rg R q18) (rg R q24)) .n .n)))))))))))
theorem si_f117 {lp : LpT} (hL : LpOk lp) (G : Roms) : Ok1 G 117 (ar5 (s_f117 lp G)) :=
  .mk at_f117 <| sf5 hL (an := an_f117 lp G) (fun _ _ => obs (by kernel_rfl)) fun call a0 a1 a2 a3 a4 H n k => by kernel_rfl
noncomputable def an_f118 (lp : LpT) (G : Roms) (call : CallT) (k : KV) : An := (.s .n (.s .n (.j (fun R=>s_f118_j8 lp G call k (rg R q0)) (.s .n (.b (.l _ (s_f118_l18b lp G call k) (fun R H n=>(rg R q0, rg R q1, rg R q18, rg R q19, rg R q20, H, n)) fun ih18=>.n))) .n)))
theorem si_f118 {lp : LpT} (hL : LpOk lp) (G : Roms) : Ok1 G 118 (ar2 (s_f118 lp G)) :=
  .mk at_f118 <| sf2 hL (an := an_f118 lp G) (fun _ _ => obs (by kernel_rfl)) fun call a0 a1 H n k => by kernel_rfl
noncomputable def an_f119 (lp : LpT) (G : Roms) (call : CallT) (k : KV) : An := .n
theorem si_f119 {lp : LpT} (hL : LpOk lp) (G : Roms) : Ok1 G 119 (ar0 (s_f119 lp G)) :=
  .mk at_f119 <| sf0 hL (an := an_f119 lp G) (fun _ _ => obs (by kernel_rfl)) fun call  H n k => by kernel_rfl
noncomputable def an_f120 (lp : LpT) (G : Roms) (call : CallT) (k : KV) : An := (.s .n (.j (fun R=>s_f120_j9 lp G call k (rg R q0) (rg R q1) (rg R q4) (rg R q5)) .n (.s .n (.s .n (.s .n (.j (fun R=>s_f120_j68 lp G call k (rg R q1) (rg R q9) (rg R q10)) .n .n))))))
theorem si_f120 {lp : LpT} (hL : LpOk lp) (G : Roms) : Ok1 G 120 (ar2 (s_f120 lp G)) :=
  .mk at_f120 <| sf2 hL (an := an_f120 lp G) (fun _ _ => obs (by kernel_rfl)) fun call a0 a1 H n k => by kernel_rfl
noncomputable def an_f121 (lp : LpT) (G : Roms) (call : CallT) (k : KV) : An := .n
theorem si_f121 {lp : LpT} (hL : LpOk lp) (G : Roms) : Ok1 G 121 (ar1 (s_f121 lp G)) :=
  .mk at_f121 <| sf1 hL (an := an_f121 lp G) (fun _ _ => obs (by kernel_rfl)) fun call a0 H n k => by kernel_rfl
noncomputable def an_f122 (lp : LpT) (G : Roms) (call : CallT) (k : KV) : An := (.b (.s .n (.c .n (.s .n (.c .n (.s .n (.c (.s .n (.j (fun R=>s_f122_j57 lp G call k (rg R q1)) .n .n)) .n)))))))
theorem si_f122 {lp : LpT} (hL : LpOk lp) (G : Roms) : Ok1 G 122 (ar2 (s_f122 lp G)) :=
  .mk at_f122 <| sf2 hL (an := an_f122 lp G) (fun _ _ => obs (by kernel_rfl)) fun call a0 a1 H n k => by kernel_rfl
noncomputable def an_f123 (lp : LpT) (G : Roms) (call : CallT) (k : KV) : An := .n
theorem si_f123 {lp : LpT} (hL : LpOk lp) (G : Roms) : Ok1 G 123 (ar1 (s_f123 lp G)) :=
  .mk at_f123 <| sf1 hL (an := an_f123 lp G) (fun _ _ => obs (by kernel_rfl)) fun call a0 H n k => by kernel_rfl
noncomputable def an_f124 (lp : LpT) (G : Roms) (call : CallT) (k : KV) : An := .n
theorem si_f124 {lp : LpT} (hL : LpOk lp) (G : Roms) : Ok1 G 124 (ar3 (s_f124 lp G)) :=
  .mk at_f124 <| sf3 hL (an := an_f124 lp G) (fun _ _ => obs (by kernel_rfl)) fun call a0 a1 a2 H n k => by kernel_rfl
noncomputable def an_f125 (lp : LpT) (G : Roms) (call : CallT) (k : KV) : An := (.s .n (.s .n (.j (fun R=>s_f125_j2 lp G call k (rg R q5)) (.s .n (.b (.l _ (s_f125_l6b lp G call k) (fun R H n=>(rg R q0, rg R q5, rg R q9, rg R q10, rg R q11, H, n)) fun ih6=>.n))) .n)))
theorem si_f125 {lp : LpT} (hL : LpOk lp) (G : Roms) : Ok1 G 125 (ar2 (s_f125 lp G)) :=
  .mk at_f125 <| sf2 hL (an := an_f125 lp G) (fun _ _ => obs (by kernel_rfl)) fun call a0 a1 H n k => by kernel_rfl
noncomputable def an_f126 (lp : LpT) (G : Roms) (call : CallT) (k : KV) : An := .n
theorem si_f126 {lp : LpT} (hL : LpOk lp) (G : Roms) : Ok1 G 126 (ar1 (s_f126 lp G)) :=
  .mk at_f126 <| sf1 hL (an := an_f126 lp G) (fun _ _ => obs (by kernel_rfl)) fun call a0 H n k => by kernel_rfl
noncomputable def an_f127 (lp : LpT) (G : Roms) (call : CallT) (k : KV) : An := (.s .n (.s .n (.s .n (.s .n (.j (fun R=>s_f127_j11 lp G call k (rg R q0) (rg R q4) (rg R q7) (rg R q8)) (.s .n (.b (.l _ (s_f127_l19b lp G call k) (fun R H n=>(rg R q0, rg R q4, rg R q7, rg R q8, rg R q24, rg R q25, rg R q26, H, n)) fun ih19=>.n))) .n)))))
theorem si_f127 {lp : LpT} (hL : LpOk lp) (G : Roms) : Ok1 G 127 (ar2 (s_f127 lp G)) :=
  .mk at_f127 <| sf2 hL (an := an_f127 lp G) (fun _ _ => obs (by kernel_rfl)) fun call a0 a1 H n k => by kernel_rfl
noncomputable def an_f128 (lp : LpT) (G : Roms) (call : CallT) (k : KV) : An := .n
theorem si_f128 {lp : LpT} (hL : LpOk lp) (G : Roms) : Ok1 G 128 (ar3 (s_f128 lp G)) :=
  .mk at_f128 <| sf3 hL (an := an_f128 lp G) (fun _ _ => obs (by kernel_rfl)) fun call a0 a1 a2 H n k => by kernel_rfl
noncomputable def an_f130 (lp : LpT) (G : Roms) (call : CallT) (k : KV) : An := .n
theorem si_f130 {lp : LpT} (hL : LpOk lp) (G : Roms) : Ok1 G 130 (ar1 (s_f130 lp G)) :=
  .mk at_f130 <| sf1 hL (an := an_f130 lp G) (fun _ _ => obs (by kernel_rfl)) fun call a0 H n k => by kernel_rfl
noncomputable def an_f131 (lp : LpT) (G : Roms) (call : CallT) (k : KV) : An := .n
theorem si_f131 {lp : LpT} (hL : LpOk lp) (G : Roms) : Ok1 G 131 (ar1 (s_f131 lp G)) :=
  .mk at_f131 <| sf1 hL (an := an_f131 lp G) (fun _ _ => obs (by kernel_rfl)) fun call a0 H n k => by kernel_rfl
noncomputable def an_f132 (lp : LpT) (G : Roms) (call : CallT) (k : KV) : An := (.s .n (.s .n (.s .n (.s .n (.s .n (.s .n (.j (fun R=>s_f132_j22 lp G call k (rg R q2) (rg R q3) (rg R q37)) .n .n)))))))
theorem si_f132 {lp : LpT} (hL : LpOk lp) (G : Roms) : Ok1 G 132 (ar1 (s_f132 lp G)) :=
  .mk at_f132 <| sf1 hL (an := an_f132 lp G) (fun _ _ => obs (by kernel_rfl)) fun call a0 H n k => by kernel_rfl
noncomputable def an_f133 (lp : LpT) (G : Roms) (call : CallT) (k : KV) : An := (.s .n (.s .n (.s (.s .n (.c (.j (fun R=>s_f133_j15 lp G call k) .n .n) .n)) (.j (fun R=>s_f133_j24 lp G call k (rg R q0) (rg R q1)) .n .n))))
theorem si_f133 {lp : LpT} (hL : LpOk lp) (G : Roms) : Ok1 G 133 (ar2 (s_f133 lp G)) :=
  .mk at_f133 <| sf2 hL (an := an_f133 lp G) (fun _ _ => obs (by kernel_rfl)) fun call a0 a1 H n k => by kernel_rfl
noncomputable def an_f134 (lp : LpT) (G : Roms) (call : CallT) (k : KV) : An := (.s .n (.s .n (.j (fun R=>s_f134_j3 lp G call k (rg R q0) (rg R q2) (rg R q4) (rg R q10)) (.b (.l _ (s_f134_l6b lp G call k) (fun R H n=>(rg R q0, rg R q2, rg R q4, rg R q10, rg R q11, H, n)) fun ih6=>.n)) .n)))
theorem si_f134 {lp : LpT} (hL : LpOk lp) (G : Roms) : Ok1 G 134 (ar5 (s_f134 lp G)) :=
  .mk at_f134 <| sf5 hL (an := an_f134 lp G) (fun _ _ => obs (by kernel_rfl)) fun call a0 a1 a2 a3 a4 H n k => by kernel_rfl
noncomputable def an_f135 (lp : LpT) (G : Roms) (call : CallT) (k : KV) : An := (.s .n (.s .n (.j (fun R=>s_f135_j3 lp G call k (rg R q0) (rg R q2) (rg R q4) (rg R q10)) (.b (.l _ (s_f135_l6b lp G call k) (fun R H n=>(rg R q0, rg R q2, rg R q4, rg R q10, rg R q11, H, n)) fun ih6=>.n)) .n)))
theorem si_f135 {lp : LpT} (hL : LpOk lp) (G : Roms) : Ok1 G 135 (ar5 (s_f135 lp G)) :=
  .mk at_f135 <| sf5 hL (an := an_f135 lp G) (fun _ _ => obs (by kernel_rfl)) fun call a0 a1 a2 a3 a4 H n k => by kernel_rfl
noncomputable def an_f136 (lp : LpT) (G : Roms) (call : CallT) (k : KV) : An := (.s .n (.s .n (.s .n (.b (.l _ (s_f136_l13b lp G call k) (fun R H n=>(rg R q0, rg R q7, rg R q21, rg R q22, rg R q23, H, n)) fun ih13=>.n)))))
theorem si_f136 {lp : LpT} (hL : LpOk lp) (G : Roms) : Ok1 G 136 (ar4 (s_f136 lp G)) :=
  .mk at_f136 <| sf4 hL (an := an_f136 lp G) (fun _ _ => obs (by kernel_rfl)) fun call a0 a1 a2 a3 H n k => by kernel_rfl
noncomputable def an_f137 (lp : LpT) (G : Roms) (call : CallT) (k : KV) : An := .n
theorem si_f137 {lp : LpT} (hL : LpOk lp) (G : Roms) : Ok1 G 137 (ar2 (s_f137 lp G)) :=
  .mk at_f137 <| sf2 hL (an := an_f137 lp G) (fun _ _ => obs (by kernel_rfl)) fun call a0 a1 H n k => by kernel_rfl
noncomputable def an_f138 (lp : LpT) (G : Roms) (call : CallT) (k : KV) : An := .n
theorem si_f138 {lp : LpT} (hL : LpOk lp) (G : Roms) : Ok1 G 138 (ar2 (s_f138 lp G)) :=
  .mk at_f138 <| sf2 hL (an := an_f138 lp G) (fun _ _ => obs (by kernel_rfl)) fun call a0 a1 H n k => by kernel_rfl
noncomputable def an_f139 (lp : LpT) (G : Roms) (call : CallT) (k : KV) : An := .n
theorem si_f139 {lp : LpT} (hL : LpOk lp) (G : Roms) : Ok1 G 139 (ar4 (s_f139 lp G)) :=
  .mk at_f139 <| sf4 hL (an := an_f139 lp G) (fun _ _ => obs (by kernel_rfl)) fun call a0 a1 a2 a3 H n k => by kernel_rfl
noncomputable def an_f140 (lp : LpT) (G : Roms) (call : CallT) (k : KV) : An := (.s .n (.s .n (.j (fun R=>s_f140_j5 lp G call k (rg R q8) (rg R q9)) (.b (.l _ (s_f140_l8b lp G call k) (fun R H n=>(rg R q0, rg R q1, rg R q2, rg R q3, rg R q8, rg R q9, H, n)) fun ih8=>.n)) .n)))
theorem si_f140 {lp : LpT} (hL : LpOk lp) (G : Roms) : Ok1 G 140 (ar4 (s_f140 lp G)) :=
  .mk at_f140 <| sf4 hL (an := an_f140 lp G) (fun _ _ => obs (by kernel_rfl)) fun call a0 a1 a2 a3 H n k => by kernel_rfl
noncomputable def an_f141 (lp : LpT) (G : Roms) (call : CallT) (k : KV) : An := .n
theorem si_f141 {lp : LpT} (hL : LpOk lp) (G : Roms) : Ok1 G 141 (ar1 (s_f141 lp G)) :=
  .mk at_f141 <| sf1 hL (an := an_f141 lp G) (fun _ _ => obs (by kernel_rfl)) fun call a0 H n k => by kernel_rfl
noncomputable def an_f142 (lp : LpT) (G : Roms) (call : CallT) (k : KV) : An := (.s .n (.s .n (.s .n (.j (fun R=>s_f142_j6 lp G call k (rg R q2) (rg R q4)) .n .n))))
theorem si_f142 {lp : LpT} (hL : LpOk lp) (G : Roms) : Ok1 G 142 (ar1 (s_f142 lp G)) :=
  .mk at_f142 <| sf1 hL (an := an_f142 lp G) (fun _ _ => obs (by kernel_rfl)) fun call a0 H n k => by kernel_rfl
noncomputable def an_f143 (lp : LpT) (G : Roms) (call : CallT) (k : KV) : An := (.s .n (.b (.l _ (s_f143_l1b lp G call k) (fun R H n=>(rg R q0, rg R q1, rg R q2, rg R q3, rg R q10, H, n)) fun ih1=>.n)))
theorem si_f143 {lp : LpT} (hL : LpOk lp) (G : Roms) : Ok1 G 143 (ar5 (s_f143 lp G)) :=
  .mk at_f143 <| sf5 hL (an := an_f143 lp G) (fun _ _ => obs (by kernel_rfl)) fun call a0 a1 a2 a3 a4 H n k => by kernel_rfl
noncomputable def an_f144 (lp : LpT) (G : Roms) (call : CallT) (k : KV) : An := (.s .n (.b (.l _ (s_f144_l1b lp G call k) (fun R H n=>(rg R q0, rg R q1, rg R q2, rg R q3, rg R q10, H, n)) fun ih1=>.n)))
theorem si_f144 {lp : LpT} (hL : LpOk lp) (G : Roms) : Ok1 G 144 (ar5 (s_f144 lp G)) :=
  .mk at_f144 <| sf5 hL (an := an_f144 lp G) (fun _ _ => obs (by kernel_rfl)) fun call a0 a1 a2 a3 a4 H n k => by kernel_rfl
noncomputable def an_f145 (lp : LpT) (G : Roms) (call : CallT) (k : KV) : An := .n
theorem si_f145 {lp : LpT} (hL : LpOk lp) (G : Roms) : Ok1 G 145 (ar1 (s_f145 lp G)) :=
  .mk at_f145 <| sf1 hL (an := an_f145 lp G) (fun _ _ => obs (by kernel_rfl)) fun call a0 H n k => by kernel_rfl
noncomputable def an_f146 (lp : LpT) (G : Roms) (call : CallT) (k : KV) : An := (.s .n (.s .n (.j (fun R=>s_f146_j5 lp G call k (rg R q6) (rg R q7)) (.b (.l _ (s_f146_l8b lp G call k) (fun R H n=>(rg R q0, rg R q1, rg R q2, rg R q6, rg R q7, H, n)) fun ih8=>.n)) .n)))
theorem si_f146 {lp : LpT} (hL : LpOk lp) (G : Roms) : Ok1 G 146 (ar3 (s_f146 lp G)) :=
  .mk at_f146 <| sf3 hL (an := an_f146 lp G) (fun _ _ => obs (by kernel_rfl)) fun call a0 a1 a2 H n k => by kernel_rfl
noncomputable def an_f147 (lp : LpT) (G : Roms) (call : CallT) (k : KV) : An := .n
theorem si_f147 {lp : LpT} (hL : LpOk lp) (G : Roms) : Ok1 G 147 (ar1 (s_f147 lp G)) :=
  .mk at_f147 <| sf1 hL (an := an_f147 lp G) (fun _ _ => obs (by kernel_rfl)) fun call a0 H n k => by kernel_rfl
noncomputable def an_f148 (lp : LpT) (G : Roms) (call : CallT) (k : KV) : An := (.s .n (.s .n (.j (fun R=>s_f148_j10 lp G call k (rg R q0) (rg R q2) (rg R q63)) (.s .n (.b (.l _ (s_f148_l37b lp G call k) (fun R H n=>(rg R q0, rg R q2, rg R q3, rg R q16, rg R q17, rg R q18, rg R q63, H, n)) fun ih37=>.n))) (.s .n (.j (fun R=>s_f148_j14 lp G call k (rg R q2) (rg R q6) (rg R q63)) (.b (.l _ (s_f148_l17b lp G call k) (fun R H n=>(rg R q0, rg R q2, rg R q6, rg R q63, H, n)) fun ih17=>(.s .n (.b (.s .n (.s .n (.j (fun R=>s_f148_j23 lp G call k ih17 (rg R q0) (rg R q2) (rg R q6) (rg R q7) (rg R q8) (rg R q63)) .n .n))))))) .n)))))
theorem si_f148 {lp : LpT} (hL : LpOk lp) (G : Roms) : Ok1 G 148 (ar1 (s_f148 lp G)) :=
  .mk at_f148 <| sf1 hL (an := an_f148 lp G) (fun _ _ => obs (by kernel_rfl)) fun call a0 H n k => by kernel_rfl
noncomputable def an_f149 (lp : LpT) (G : Roms) (call : CallT) (k : KV) : An := (.s .n (.s .n (.b (.l _ (s_f149_l5b lp G call k) (fun R H n=>(rg R q0, rg R q2, rg R q3, H, n)) fun ih5=>.n))))
theorem si_f149 {lp : LpT} (hL : LpOk lp) (G : Roms) : Ok1 G 149 (ar1 (s_f149 lp G)) :=
  .mk at_f149 <| sf1 hL (an := an_f149 lp G) (fun _ _ => obs (by kernel_rfl)) fun call a0 H n k => by kernel_rfl
noncomputable def an_f150 (lp : LpT) (G : Roms) (call : CallT) (k : KV) : An := (.s .n (.s .n (.s .n (.j (fun R=>s_f150_j14 lp G call k (rg R q2) (rg R q4)) .n .n))))
theorem si_f150 {lp : LpT} (hL : LpOk lp) (G : Roms) : Ok1 G 150 (ar1 (s_f150 lp G)) :=
  .mk at_f150 <| sf1 hL (an := an_f150 lp G) (fun _ _ => obs (by kernel_rfl)) fun call a0 H n k => by kernel_rfl
noncomputable def an_f151 (lp : LpT) (G : Roms) (call : CallT) (k : KV) : An := .n
theorem si_f151 {lp : LpT} (hL : LpOk lp) (G : Roms) : Ok1 G 151 (ar3 (s_f151 lp G)) :=
  .mk at_f151 <| sf3 hL (an := an_f151 lp G) (fun _ _ => obs (by kernel_rfl)) fun call a0 a1 a2 H n k => by kernel_rfl
noncomputable def an_f152 (lp : LpT) (G : Roms) (call : CallT) (k : KV) : An := (.s .n (.s .n (.s .n (.j (fun R=>s_f152_j3 lp G call k (rg R q3)) (.b (.l _ (s_f152_l4b lp G call k) (fun R H n=>(rg R q0, rg R q3, H, n)) fun ih4=>(.s .n (.b (.j (fun R=>s_f152_j10 lp G call k ih4 (rg R q0) (rg R q3)) .n .n))))) .n))))
theorem si_f152 {lp : LpT} (hL : LpOk lp) (G : Roms) : Ok1 G 152 (ar1 (s_f152 lp G)) :=
  .mk at_f152 <| sf1 hL (an := an_f152 lp G) (fun _ _ => obs (by kernel_rfl)) fun call a0 H n k => by kernel_rfl
end Go.R3

/- All plain functions. -/
namespace Go.R3
open Go.Eng
set_option maxRecDepth 100000
noncomputable def FS (lp : LpT) (G : Roms) : T SF := (.n none (.n none (.n none (.n none (.n none (.n (some (ar1 (s_f31 lp G))) (.n (some (ar2 (s_f63 lp G))) (.n (some (ar2 (s_f127 lp G))) .e .e) .e) (.n (some (ar1 (s_f95 lp G))) .e .e)) (.n (some (ar2 (s_f47 lp G))) (.n (some (ar2 (s_f79 lp G))) (.n (some (ar5 (s_f143 lp G))) .e .e) .e) (.n (some (ar1 (s_f111 lp G))) .e .e))) (.n (some (ar0 (s_f23 lp G))) (.n (some (ar1 (s_f39 lp G))) (.n (some (ar2 (s_f71 lp G))) (.n (some (ar5 (s_f135 lp G))) .e .e) .e) (.n (some (ar2 (s_f103 lp G))) .e .e)) (.n (some (ar2 (s_f55 lp G))) (.n (some (ar2 (s_f87 lp G))) (.n (some (ar3 (s_f151 lp G))) .e .e) .e) (.n (some (ar0 (s_f119 lp G))) .e .e)))) (.n none (.n (some (ar0 (s_f19 lp G))) (.n (some (ar1 (s_f35 lp G))) (.n (some (ar1 (s_f67 lp G))) (.n (some (ar1 (s_f131 lp G))) .e .e) .e) (.n (some (ar2 (s_f99 lp G))) .e .e)) (.n (some (ar3 (s_f51 lp G))) (.n (some (ar1 (s_f83 lp G))) (.n (some (ar1 (s_f147 lp G))) .e .e) .e) .e)) (.n (some (ar1 (s_f27 lp G))) (.n (some (ar2 (s_f43 lp G))) (.n (some (ar2 (s_f75 lp G))) (.n (some (ar4 (s_f139 lp G))) .e .e) .e) (.n (some (ar3 (s_f107 lp G))) .e .e)) (.n (some (ar1 (s_f59 lp G))) (.n (some (ar1 (s_f91 lp G))) .e .e) (.n (some (ar1 (s_f123 lp G))) .e .e))))) (.n none (.n none (.n (some (ar2 (s_f17 lp G))) (.n (some (ar4 (s_f33 lp G))) (.n (some (ar2 (s_f65 lp G))) .e .e) (.n (some (ar1 (s_f97 lp G))) .e .e)) (.n (some (ar1 (s_f49 lp G))) (.n (some (ar4 (s_f81 lp G))) (.n (some (ar1 (s_f145 lp G))) .e .e) .e) (.n (some (ar4 (s_f113 lp G))) .e .e))) (.n (some (ar2 (s_f25 lp G))) (.n (some (ar2 (s_f41 lp G))) (.n (some (ar2 (s_f73 lp G))) (.n (some (ar2 (s_f137 lp G))) .e .e) .e) (.n (some (ar3 (s_f105 lp G))) .e .e)) (.n (some (ar1 (s_f57 lp G))) (.n (some (ar2 (s_f89 lp G))) .e .e) (.n (some (ar1 (s_f121 lp G))) .e .e)))) (.n none (.n (some (ar6 (s_f21 lp G))) (.n (some (ar4 (s_f37 lp G))) (.n (some (ar2 (s_f69 lp G))) (.n (some (ar2 (s_f133 lp G))) .e .e) .e) (.n (some (ar3 (s_f101 lp G))) .e .e)) (.n (some (ar2 (s_f53 lp G))) (.n (some (ar2 (s_f85 lp G))) (.n (some (ar1 (s_f149 lp G))) .e .e) .e) (.n (some (ar5 (s_f117 lp G))) .e .e))) (.n (some (ar1 (s_f29 lp G))) (.n (some (ar1 (s_f45 lp G))) (.n (some (ar1 (s_f77 lp G))) (.n (some (ar1 (s_f141 lp G))) .e .e) .e) (.n (some (ar2 (s_f109 lp G))) .e .e)) (.n (some (ar2 (s_f61 lp G))) (.n (some (ar1 (s_f93 lp G))) .e .e) (.n (some (ar2 (s_f125 lp G))) .e .e)))))) (.n none (.n none (.n none (.n none (.n (some (ar1 (s_f32 lp G))) (.n (some (ar1 (s_f64 lp G))) (.n (some (ar3 (s_f128 lp G))) .e .e) .e) (.n (some (ar1 (s_f96 lp G))) .e .e)) (.n (some (ar2 (s_f48 lp G))) (.n (some (ar2 (s_f80 lp G))) (.n (some (ar5 (s_f144 lp G))) .e .e) .e) (.n (some (ar1 (s_f112 lp G))) .e .e))) (.n (some (ar1 (s_f24 lp G))) (.n (some (ar1 (s_f40 lp G))) (.n (some (ar2 (s_f72 lp G))) (.n (some (ar4 (s_f136 lp G))) .e .e) .e) (.n (some (ar3 (s_f104 lp G))) .e .e)) (.n (some (ar2 (s_f56 lp G))) (.n (some (ar1 (s_f88 lp G))) (.n (some (ar1 (s_f152 lp G))) .e .e) .e) (.n (some (ar2 (s_f120 lp G))) .e .e)))) (.n none (.n (some (ar1 (s_f20 lp G))) (.n (some (ar4 (s_f36 lp G))) (.n (some (ar2 (s_f68 lp G))) (.n (some (ar1 (s_f132 lp G))) .e .e) .e) (.n (some (ar3 (s_f100 lp G))) .e .e)) (.n (some (ar3 (s_f52 lp G))) (.n (some (ar2 (s_f84 lp G))) (.n (some (ar1 (s_f148 lp G))) .e .e) .e) (.n (some (ar4 (s_f116 lp G))) .e .e))) (.n (some (ar2 (s_f28 lp G))) (.n (some (ar1 (s_f44 lp G))) (.n (some (ar1 (s_f76 lp G))) (.n (some (ar4 (s_f140 lp G))) .e .e) .e) (.n (some (ar2 (s_f108 lp G))) .e .e)) (.n (some (ar1 (s_f60 lp G))) (.n (some (ar1 (s_f92 lp G))) .e .e) (.n (some (ar3 (s_f124 lp G))) .e .e))))) (.n none (.n none (.n none (.n (some (ar2 (s_f34 lp G))) (.n (some (ar2 (s_f66 lp G))) (.n (some (ar1 (s_f130 lp G))) .e .e) .e) (.n (some (ar3 (s_f98 lp G))) .e .e)) (.n (some (ar2 (s_f50 lp G))) (.n (some (ar2 (s_f82 lp G))) (.n (some (ar3 (s_f146 lp G))) .e .e) .e) (.n (some (ar5 (s_f114 lp G))) .e .e))) (.n (some (ar2 (s_f26 lp G))) (.n (some (ar3 (s_f42 lp G))) (.n (some (ar2 (s_f74 lp G))) (.n (some (ar2 (s_f138 lp G))) .e .e) .e) (.n (some (ar0 (s_f106 lp G))) .e .e)) (.n (some (ar2 (s_f58 lp G))) (.n (some (ar1 (s_f90 lp G))) .e .e) (.n (some (ar2 (s_f122 lp G))) .e .e)))) (.n none (.n none (.n (some (ar1 (s_f38 lp G))) (.n (some (ar2 (s_f70 lp G))) (.n (some (ar5 (s_f134 lp G))) .e .e) .e) (.n (some (ar1 (s_f102 lp G))) .e .e)) (.n (some (ar2 (s_f54 lp G))) (.n (some (ar2 (s_f86 lp G))) (.n (some (ar1 (s_f150 lp G))) .e .e) .e) (.n (some (ar2 (s_f118 lp G))) .e .e))) (.n (some (ar2 (s_f30 lp G))) (.n (some (ar1 (s_f46 lp G))) (.n (some (ar1 (s_f78 lp G))) (.n (some (ar1 (s_f142 lp G))) .e .e) .e) (.n (some (ar2 (s_f110 lp G))) .e .e)) (.n (some (ar2 (s_f62 lp G))) (.n (some (ar1 (s_f94 lp G))) .e .e) (.n (some (ar1 (s_f126 lp G))) .e .e)))))))
theorem all_ok {lp : LpT} (hL : LpOk lp) (G : Roms) : T.All (fun p s => Ok1 G p.key s) (FS lp G) := (.n0 (.n0 (.n0 (.n0 (.n0 (.n1 (si_f31 hL G) (.n1 (si_f63 hL G) (.n1 (si_f127 hL G) .e .e) .e) (.n1 (si_f95 hL G) .e .e)) (.n1 (si_f47 hL G) (.n1 (si_f79 hL G) (.n1 (si_f143 hL G) .e .e) .e) (.n1 (si_f111 hL G) .e .e))) (.n1 (si_f23 hL G) (.n1 (si_f39 hL G) (.n1 (si_f71 hL G) (.n1 (si_f135 hL G) .e .e) .e) (.n1 (si_f103 hL G) .e .e)) (.n1 (si_f55 hL G) (.n1 (si_f87 hL G) (.n1 (si_f151 hL G) .e .e) .e) (.n1 (si_f119 hL G) .e .e)))) (.n0 (.n1 (si_f19 hL G) (.n1 (si_f35 hL G) (.n1 (si_f67 hL G) (.n1 (si_f131 hL G) .e .e) .e) (.n1 (si_f99 hL G) .e .e)) (.n1 (si_f51 hL G) (.n1 (si_f83 hL G) (.n1 (si_f147 hL G) .e .e) .e) .e)) (.n1 (si_f27 hL G) (.n1 (si_f43 hL G) (.n1 (si_f75 hL G) (.n1 (si_f139 hL G) .e .e) .e) (.n1 (si_f107 hL G) .e .e)) (.n1 (si_f59 hL G) (.n1 (si_f91 hL G) .e .e) (.n1 (si_f123 hL G) .e .e))))) (.n0 (.n0 (.n1 (si_f17 hL G) (.n1 (si_f33 hL G) (.n1 (si_f65 hL G) .e .e) (.n1 (si_f97 hL G) .e .e)) (.n1 (si_f49 hL G) (.n1 (si_f81 hL G) (.n1 (si_f145 hL G) .e .e) .e) (.n1 (si_f113 hL G) .e .e))) (.n1 (si_f25 hL G) (.n1 (si_f41 hL G) (.n1 (si_f73 hL G) (.n1 (si_f137 hL G) .e .e) .e) (.n1 (si_f105 hL G) .e .e)) (.n1 (si_f57 hL G) (.n1 (si_f89 hL G) .e .e) (.n1 (si_f121 hL G) .e .e)))) (.n0 (.n1 (si_f21 hL G) (.n1 (si_f37 hL G) (.n1 (si_f69 hL G) (.n1 (si_f133 hL G) .e .e) .e) (.n1 (si_f101 hL G) .e .e)) (.n1 (si_f53 hL G) (.n1 (si_f85 hL G) (.n1 (si_f149 hL G) .e .e) .e) (.n1 (si_f117 hL G) .e .e))) (.n1 (si_f29 hL G) (.n1 (si_f45 hL G) (.n1 (si_f77 hL G) (.n1 (si_f141 hL G) .e .e) .e) (.n1 (si_f109 hL G) .e .e)) (.n1 (si_f61 hL G) (.n1 (si_f93 hL G) .e .e) (.n1 (si_f125 hL G) .e .e)))))) (.n0 (.n0 (.n0 (.n0 (.n1 (si_f32 hL G) (.n1 (si_f64 hL G) (.n1 (si_f128 hL G) .e .e) .e) (.n1 (si_f96 hL G) .e .e)) (.n1 (si_f48 hL G) (.n1 (si_f80 hL G) (.n1 (si_f144 hL G) .e .e) .e) (.n1 (si_f112 hL G) .e .e))) (.n1 (si_f24 hL G) (.n1 (si_f40 hL G) (.n1 (si_f72 hL G) (.n1 (si_f136 hL G) .e .e) .e) (.n1 (si_f104 hL G) .e .e)) (.n1 (si_f56 hL G) (.n1 (si_f88 hL G) (.n1 (si_f152 hL G) .e .e) .e) (.n1 (si_f120 hL G) .e .e)))) (.n0 (.n1 (si_f20 hL G) (.n1 (si_f36 hL G) (.n1 (si_f68 hL G) (.n1 (si_f132 hL G) .e .e) .e) (.n1 (si_f100 hL G) .e .e)) (.n1 (si_f52 hL G) (.n1 (si_f84 hL G) (.n1 (si_f148 hL G) .e .e) .e) (.n1 (si_f116 hL G) .e .e))) (.n1 (si_f28 hL G) (.n1 (si_f44 hL G) (.n1 (si_f76 hL G) (.n1 (si_f140 hL G) .e .e) .e) (.n1 (si_f108 hL G) .e .e)) (.n1 (si_f60 hL G) (.n1 (si_f92 hL G) .e .e) (.n1 (si_f124 hL G) .e .e))))) (.n0 (.n0 (.n0 (.n1 (si_f34 hL G) (.n1 (si_f66 hL G) (.n1 (si_f130 hL G) .e .e) .e) (.n1 (si_f98 hL G) .e .e)) (.n1 (si_f50 hL G) (.n1 (si_f82 hL G) (.n1 (si_f146 hL G) .e .e) .e) (.n1 (si_f114 hL G) .e .e))) (.n1 (si_f26 hL G) (.n1 (si_f42 hL G) (.n1 (si_f74 hL G) (.n1 (si_f138 hL G) .e .e) .e) (.n1 (si_f106 hL G) .e .e)) (.n1 (si_f58 hL G) (.n1 (si_f90 hL G) .e .e) (.n1 (si_f122 hL G) .e .e)))) (.n0 (.n0 (.n1 (si_f38 hL G) (.n1 (si_f70 hL G) (.n1 (si_f134 hL G) .e .e) .e) (.n1 (si_f102 hL G) .e .e)) (.n1 (si_f54 hL G) (.n1 (si_f86 hL G) (.n1 (si_f150 hL G) .e .e) .e) (.n1 (si_f118 hL G) .e .e))) (.n1 (si_f30 hL G) (.n1 (si_f46 hL G) (.n1 (si_f78 hL G) (.n1 (si_f142 hL G) .e .e) .e) (.n1 (si_f110 hL G) .e .e)) (.n1 (si_f62 hL G) (.n1 (si_f94 hL G) .e .e) (.n1 (si_f126 hL G) .e .e)))))))
theorem fs_ok {lp : LpT} (hL : LpOk lp) (G : Roms) : FsOk F G (FS lp G) := fun f s h => by
  have := T.All.getp (p := pth f) (all_ok hL G) h
  rw [key_pth] at this
  obtain ⟨h, o⟩ := this
  exact ⟨_, h, o⟩
end Go.R3

