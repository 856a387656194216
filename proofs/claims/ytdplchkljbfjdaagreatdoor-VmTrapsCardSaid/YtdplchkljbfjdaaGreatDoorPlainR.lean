/- Part of a proof: texts RVSi RVSt of the engine and what is proved with it; nothing is assumed. -/
import Derived.Test.YtdplchkljbfjdaaGreatDoorPlainB
import Derived.Test.YtdplchkljbfjdaaGreatDoorCode
import Derived.Test.YtdplchkljbfjdaaGreatDoorEngE
set_option linter.unusedVariables false
set_option linter.unusedSimpArgs false
/- They are right: printed by program. -/
namespace Go.R5
open Go.Eng
set_option maxRecDepth 100000
inductive Ok1 (G : Roms) (n : Nat) (s : SF) : Prop where
  | mk {af : AF} (h : T.get F n = some af) (o : SfOk G af s) : Ok1 G n s
noncomputable def an_f10 (lp : LpT) (G : Roms) (call : CallT) (k : KV) : An := (.s .n (.s .n (.j (fun R=>s_f10_j2 lp G call k (rg R q5)) (.s .n (.b (.l _ (s_f10_l29b lp G call k) (fun R H n=>(rg R q5, rg R q17, rg R q18, rg R q19, H, n)) fun ih29=>.n))) (.s .n (.s .n (.j (fun R=>s_f10_j5 lp G call k (rg R q10) (rg R q11)) (.s .n (.b (.l _ (s_f10_l7b lp G call k) (fun R H n=>(rg R q10, rg R q11, rg R q39, rg R q40, rg R q41, H, n)) fun ih7=>.n))) .n))))))
theorem si_f10 {lp : LpT} (hL : LpOk lp) (G : Roms) : Ok1 G 10 (ar1 (s_f10 lp G)) :=
  .mk at_f10 <| sf1 hL (an := an_f10 lp G) (fun _ _ => obs (by kernel_rfl)) fun call a0 H n k => by kernel_rfl
noncomputable def an_f11 (lp : LpT) (G : Roms) (call : CallT) (k : KV) : An := (.s .n (.s .n (.j (fun R=>s_f11_j2 lp G call k (rg R q6)) (.s .n (.b (.l _ (s_f11_l4b lp G call k) (fun R H n=>(rg R q0, rg R q6, rg R q12, rg R q13, rg R q14, H, n)) fun ih4=>.n))) .n)))
theorem si_f11 {lp : LpT} (hL : LpOk lp) (G : Roms) : Ok1 G 11 (ar2 (s_f11 lp G)) :=
  .mk at_f11 <| sf2 hL (an := an_f11 lp G) (fun _ _ => obs (by kernel_rfl)) fun call a0 a1 H n k => by kernel_rfl
noncomputable def an_f13 (lp : LpT) (G : Roms) (call : CallT) (k : KV) : An := .n
theorem si_f13 {lp : LpT} (hL : LpOk lp) (G : Roms) : Ok1 G 13 (ar0 (s_f13 lp G)) :=
  .mk at_f13 <| sf0 hL (an := an_f13 lp G) (fun _ _ => obs (by kernel_rfl)) fun call  H n k => by kernel_rfl
noncomputable def an_f14 (lp : LpT) (G : Roms) (call : CallT) (k : KV) : An := .n
theorem si_f14 {lp : LpT} (hL : LpOk lp) (G : Roms) : Ok1 G 14 (ar2 (s_f14 lp G)) :=
  .mk at_f14 <| sf2 hL (an := an_f14 lp G) (fun _ _ => obs (by kernel_rfl)) fun call a0 a1 H n k => by kernel_rfl
noncomputable def an_f15 (lp : LpT) (G : Roms) (call : CallT) (k : KV) : An := (.s .n (.s .n (.s .n (.s .n (.s .n (.j (fun R=>s_f15_j35 lp G call k (rg R q1) (rg R q10) (rg R q13) (rg R q15) (rg R q16)) (.s .n (.b (.l _ (s_f15_l67b lp G call k) (fun R H n=>(rg R q1, rg R q10, rg R q13, rg R q15, rg R q16, rg R q58, rg R q59, rg R q60, H, n)) fun ih67=>.n))) .n))))))
theorem si_f15 {lp : LpT} (hL : LpOk lp) (G : Roms) : Ok1 G 15 (ar5 (s_f15 lp G)) :=
  .mk at_f15 <| sf5 hL (an := an_f15 lp G) (fun _ _ => obs (by kernel_rfl)) fun call a0 a1 a2 a3 a4 H n k => by kernel_rfl
noncomputable def an_f16 (lp : LpT) (G : Roms) (call : CallT) (k : KV) : An := (.s .n (.s .n (.j (fun R=>s_f16_j7 lp G call k (rg R q0) (rg R q2) (rg R q3) (rg R q4) (rg R q12) (rg R q14)) (.s .n (.b (.l _ (s_f16_l66b lp G call k) (fun R H n=>(rg R q0, rg R q2, rg R q3, rg R q4, rg R q12, rg R q14, rg R q29, rg R q30, rg R q31, H, n)) fun ih66=>.n))) (.s .n (.s .n (.s .n (.j (fun R=>s_f16_j34 lp G call k (rg R q2) (rg R q3) (rg R q12) (rg R q14) (rg R q20)) (.s .n (.b (.l _ (s_f16_l57b lp G call k) (fun R H n=>(rg R q2, rg R q3, rg R q12, rg R q14, rg R q20, rg R q74, rg R q75, rg R q76, H, n)) fun ih57=>.n))) (.s .n (.j (fun R=>s_f16_j39 lp G call k (rg R q12) (rg R q14) (rg R q23)) .n .n)))))))))
theorem si_f16 {lp : LpT} (hL : LpOk lp) (G : Roms) : Ok1 G 16 (ar6 (s_f16 lp G)) :=
  .mk at_f16 <| sf6 hL (an := an_f16 lp G) (fun _ _ => obs (by kernel_rfl)) fun call a0 a1 a2 a3 a4 a5 H n k => by kernel_rfl
noncomputable def an_f17 (lp : LpT) (G : Roms) (call : CallT) (k : KV) : An := .n
theorem si_f17 {lp : LpT} (hL : LpOk lp) (G : Roms) : Ok1 G 17 (ar2 (s_f17 lp G)) :=
  .mk at_f17 <| sf2 hL (an := an_f17 lp G) (fun _ _ => obs (by kernel_rfl)) fun call a0 a1 H n k => by kernel_rfl
noncomputable def an_f19 (lp : LpT) (G : Roms) (call : CallT) (k : KV) : An := .n
theorem si_f19 {lp : LpT} (hL : LpOk lp) (G : Roms) : Ok1 G 19 (ar1 (s_f19 lp G)) :=
  .mk at_f19 <| sf1 hL (an := an_f19 lp G) (fun _ _ => obs (by kernel_rfl)) fun call a0 H n k => by kernel_rfl
noncomputable def an_f20 (lp : LpT) (G : Roms) (call : CallT) (k : KV) : An := (.s .n (.s .n (.j (fun R=>s_f20_j2 lp G call k (rg R q3)) (.s .n (.b (.l _ (s_f20_l5b lp G call k) (fun R H n=>(rg R q3, rg R q7, rg R q8, rg R q9, H, n)) fun ih5=>.n))) .n)))
theorem si_f20 {lp : LpT} (hL : LpOk lp) (G : Roms) : Ok1 G 20 (ar1 (s_f20 lp G)) :=
  .mk at_f20 <| sf1 hL (an := an_f20 lp G) (fun _ _ => obs (by kernel_rfl)) fun call a0 H n k => by kernel_rfl
noncomputable def an_f21 (lp : LpT) (G : Roms) (call : CallT) (k : KV) : An := (.s .n (.s .n (.s .n (.s .n (.s .n (.s .n (.j (fun R=>s_f21_j42 lp G call k (rg R q3) (rg R q4) (rg R q5) (rg R q9)) (.s .n (.b (.l _ (s_f21_l61b lp G call k) (fun R H n=>(rg R q3, rg R q4, rg R q5, rg R q9, rg R q52, rg R q53, rg R q54, H, n)) fun ih61=>.n))) .n)))))))
theorem si_f21 {lp : LpT} (hL : LpOk lp) (G : Roms) : Ok1 G 21 (ar2 (s_f21 lp G)) :=
  .mk at_f21 <| sf2 hL (an := an_f21 lp G) (fun _ _ => obs (by kernel_rfl)) fun call a0 a1 H n k => by kernel_rfl
noncomputable def an_f22 (lp : LpT) (G : Roms) (call : CallT) (k : KV) : An := (.s .n (.s .n (.s .n (.s .n (.j (fun R=>s_f22_j12 lp G call k (rg R q4) (rg R q6)) (.s .n (.b (.l _ (s_f22_l25b lp G call k) (fun R H n=>(rg R q4, rg R q6, rg R q21, rg R q22, rg R q23, H, n)) fun ih25=>.n))) .n)))))
theorem si_f22 {lp : LpT} (hL : LpOk lp) (G : Roms) : Ok1 G 22 (ar2 (s_f22 lp G)) :=
  .mk at_f22 <| sf2 hL (an := an_f22 lp G) (fun _ _ => obs (by kernel_rfl)) fun call a0 a1 H n k => by kernel_rfl
noncomputable def an_f23 (lp : LpT) (G : Roms) (call : CallT) (k : KV) : An := (.s .n (.s .n (.j (fun R=>s_f23_j5 lp G call k (rg R q9)) (.s .n (.b (.l _ (s_f23_l9b lp G call k) (fun R H n=>(rg R q0, rg R q2, rg R q3, rg R q9, rg R q25, rg R q26, rg R q27, H, n)) fun ih9=>.n))) .n)))
theorem si_f23 {lp : LpT} (hL : LpOk lp) (G : Roms) : Ok1 G 23 (ar4 (s_f23 lp G)) :=
  .mk at_f23 <| sf4 hL (an := an_f23 lp G) (fun _ _ => obs (by kernel_rfl)) fun call a0 a1 a2 a3 H n k => by kernel_rfl
noncomputable def an_f26 (lp : LpT) (G : Roms) (call : CallT) (k : KV) : An := (.s .n (.s .n (.s .n (.s .n (.j (fun R=>s_f26_j6 lp G call k (rg R q0) (rg R q4) (rg R q5)) (.s .n (.b (.l _ (s_f26_l33b lp G call k) (fun R H n=>(rg R q0, rg R q4, rg R q5, rg R q19, rg R q20, rg R q21, H, n)) fun ih33=>.n))) (.s .n (.j (fun R=>s_f26_j11 lp G call k (rg R q5)) (.s .n (.b (.l _ (s_f26_l13b lp G call k) (fun R H n=>(rg R q5, rg R q73, rg R q74, rg R q75, H, n)) fun ih13=>.n))) .n)))))))
theorem si_f26 {lp : LpT} (hL : LpOk lp) (G : Roms) : Ok1 G 26 (ar1 (s_f26 lp G)) :=
  .mk at_f26 <| sf1 hL (an := an_f26 lp G) (fun _ _ => obs (by kernel_rfl)) fun call a0 H n k => by kernel_rfl
noncomputable def an_f27 (lp : LpT) (G : Roms) (call : CallT) (k : KV) : An := (.s .n (.j (fun R=>s_f27_j2 lp G call k (rg R q2)) (.s .n (.b (.l _ (s_f27_l7b lp G call k) (fun R H n=>(rg R q0, rg R q2, rg R q12, rg R q13, rg R q14, H, n)) fun ih7=>(.s .n (.s .n (.j (fun R=>s_f27_j9 lp G call k ih7 (rg R q0) (rg R q2) (rg R q12) (rg R q13) (rg R q14)) (.b (.s .n (.s .n (.s .n (.b (.l _ (s_f27_l22b lp G call k ih7) (fun R H n=>(rg R q0, rg R q2, rg R q4, rg R q5, rg R q12, rg R q13, rg R q14, rg R q26, rg R q27, rg R q28, H, n)) fun ih22=>.n)))))) .n)))))) .n))
theorem si_f27 {lp : LpT} (hL : LpOk lp) (G : Roms) : Ok1 G 27 (ar1 (s_f27 lp G)) :=
  .mk at_f27 <| sf1 hL (an := an_f27 lp G) (fun _ _ => obs (by kernel_rfl)) fun call a0 H n k => by kernel_rfl
noncomputable def an_f28 (lp : LpT) (G : Roms) (call : CallT) (k : KV) : An := .n
theorem si_f28 {lp : LpT} (hL : LpOk lp) (G : Roms) : Ok1 G 28 (ar0 (s_f28 lp G)) :=
  .mk at_f28 <| sf0 hL (an := an_f28 lp G) (fun _ _ => obs (by kernel_rfl)) fun call  H n k => by kernel_rfl
noncomputable def an_f29 (lp : LpT) (G : Roms) (call : CallT) (k : KV) : An := .n
theorem si_f29 {lp : LpT} (hL : LpOk lp) (G : Roms) : Ok1 G 29 (ar2 (s_f29 lp G)) :=
  .mk at_f29 <| sf2 hL (an := an_f29 lp G) (fun _ _ => obs (by kernel_rfl)) fun call a0 a1 H n k => by kernel_rfl
noncomputable def an_f30 (lp : LpT) (G : Roms) (call : CallT) (k : KV) : An := .n
theorem si_f30 {lp : LpT} (hL : LpOk lp) (G : Roms) : Ok1 G 30 (ar1 (s_f30 lp G)) :=
  .mk at_f30 <| sf1 hL (an := an_f30 lp G) (fun _ _ => obs (by kernel_rfl)) fun call a0 H n k => by kernel_rfl
noncomputable def an_f31 (lp : LpT) (G : Roms) (call : CallT) (k : KV) : An := .n
theorem si_f31 {lp : LpT} (hL : LpOk lp) (G : Roms) : Ok1 G 31 (ar3 (s_f31 lp G)) :=
  .mk at_f31 <| sf3 hL (an := an_f31 lp G) (fun _ _ => obs (by kernel_rfl)) fun call a0 a1 a2 H n k => by kernel_rfl
noncomputable def an_f32 (lp : LpT) (G : Roms) (call : CallT) (k : KV) : An := (.s .n (.s .n (.s .n (.j (fun R=>s_f32_j3 lp G call k (rg R q2) (rg R q3)) (.b (.l _ (s_f32_l6b lp G call k) (fun R H n=>(rg R q0, rg R q2, rg R q3, H, n)) fun ih6=>.n)) .n))))
theorem si_f32 {lp : LpT} (hL : LpOk lp) (G : Roms) : Ok1 G 32 (ar1 (s_f32 lp G)) :=
  .mk at_f32 <| sf1 hL (an := an_f32 lp G) (fun _ _ => obs (by kernel_rfl)) fun call a0 H n k => by kernel_rfl
noncomputable def an_f33 (lp : LpT) (G : Roms) (call : CallT) (k : KV) : An := .n
theorem si_f33 {lp : LpT} (hL : LpOk lp) (G : Roms) : Ok1 G 33 (ar1 (s_f33 lp G)) :=
  .mk at_f33 <| sf1 hL (an := an_f33 lp G) (fun _ _ => obs (by kernel_rfl)) fun call a0 H n k => by kernel_rfl
noncomputable def an_f34 (lp : LpT) (G : Roms) (call : CallT) (k : KV) : An := (.s .n (.j (fun R=>s_f34_j4 lp G call k (rg R q2) (rg R q3) (rg R q4) (rg R q5) (rg R q8) (rg R q68)) .n (.s .n (.s .n (.j (fun R=>s_f34_j10 lp G call k (rg R q5) (rg R q8) (rg R q9) (rg R q68)) (.s .n (.b (.l _ (s_f34_l21b lp G call k) (fun R H n=>(rg R q3, rg R q5, rg R q8, rg R q9, rg R q38, rg R q39, rg R q40, rg R q68, H, n)) fun ih21=>(.s .n (.s .n (.j (fun R=>s_f34_j23 lp G call k ih21 (rg R q3) (rg R q5) (rg R q8) (rg R q9) (rg R q38) (rg R q39) (rg R q40) (rg R q68)) .n .n)))))) .n)))))
theorem si_f34 {lp : LpT} (hL : LpOk lp) (G : Roms) : Ok1 G 34 (ar4 (s_f34 lp G)) :=
  .mk at_f34 <| sf4 hL (an := an_f34 lp G) (fun _ _ => obs (by kernel_rfl)) fun call a0 a1 a2 a3 H n k => by kernel_rfl
noncomputable def an_f35 (lp : LpT) (G : Roms) (call : CallT) (k : KV) : An := (.s .n (.s .n (.j (fun R=>s_f35_j11 lp G call k (rg R q8)) (.s .n (.b (.l _ (s_f35_l20b lp G call k) (fun R H n=>(rg R q2, rg R q3, rg R q8, rg R q32, rg R q33, rg R q34, H, n)) fun ih20=>.n))) .n)))
theorem si_f35 {lp : LpT} (hL : LpOk lp) (G : Roms) : Ok1 G 35 (ar4 (s_f35 lp G)) :=
  .mk at_f35 <| sf4 hL (an := an_f35 lp G) (fun _ _ => obs (by kernel_rfl)) fun call a0 a1 a2 a3 H n k => by kernel_rfl
noncomputable def an_f36 (lp : LpT) (G : Roms) (call : CallT) (k : KV) : An := (.s .n (.s .n (.j (fun R=>s_f36_j4 lp G call k) (.s .n (.b (.l _ (s_f36_l6b lp G call k) (fun R H n=>(rg R q0, rg R q1, rg R q12, rg R q13, H, n)) fun ih6=>.n))) .n)))
theorem si_f36 {lp : LpT} (hL : LpOk lp) (G : Roms) : Ok1 G 36 (ar2 (s_f36 lp G)) :=
  .mk at_f36 <| sf2 hL (an := an_f36 lp G) (fun _ _ => obs (by kernel_rfl)) fun call a0 a1 H n k => by kernel_rfl
noncomputable def an_f38 (lp : LpT) (G : Roms) (call : CallT) (k : KV) : An := (.s .n (.s .n (.s .n (.s .n (.b (.l _ (s_f38_l12b lp G call k) (fun R H n=>(rg R q3, rg R q4, rg R q5, H, n)) fun ih12=>.n))))))
theorem si_f38 {lp : LpT} (hL : LpOk lp) (G : Roms) : Ok1 G 38 (ar1 (s_f38 lp G)) :=
  .mk at_f38 <| sf1 hL (an := an_f38 lp G) (fun _ _ => obs (by kernel_rfl)) fun call a0 H n k => by kernel_rfl
noncomputable def an_f39 (lp : LpT) (G : Roms) (call : CallT) (k : KV) : An := (.s .n (.s .n (.s .n (.s .n (.j (fun R=>s_f39_j16 lp G call k (rg R q0) (rg R q2) (rg R q3)) .n (.s .n (.j (fun R=>s_f39_j19 lp G call k (rg R q0) (rg R q2) (rg R q3)) (.b (.l _ (s_f39_l34b lp G call k) (fun R H n=>(rg R q0, rg R q2, rg R q3, H, n)) fun ih34=>.n)) (.j (fun R=>s_f39_j20 lp G call k (rg R q2) (rg R q3)) .n .n))))))))
theorem si_f39 {lp : LpT} (hL : LpOk lp) (G : Roms) : Ok1 G 39 (ar1 (s_f39 lp G)) :=
  .mk at_f39 <| sf1 hL (an := an_f39 lp G) (fun _ _ => obs (by kernel_rfl)) fun call a0 H n k => by kernel_rfl
noncomputable def an_f40 (lp : LpT) (G : Roms) (call : CallT) (k : KV) : An := .n
theorem si_f40 {lp : LpT} (hL : LpOk lp) (G : Roms) : Ok1 G 40 (ar1 (s_f40 lp G)) :=
  .mk at_f40 <| sf1 hL (an := an_f40 lp G) (fun _ _ => obs (by kernel_rfl)) fun call a0 H n k => by kernel_rfl
noncomputable def an_f41 (lp : LpT) (G : Roms) (call : CallT) (k : KV) : An := (.s .n (.s .n (.j (fun R=>s_f41_j13 lp G call k (rg R q2) (rg R q3)) (.s .n (.b (.l _ (s_f41_l20b lp G call k) (fun R H n=>(rg R q2, rg R q3, rg R q15, rg R q16, rg R q17, H, n)) fun ih20=>.n))) .n)))
theorem si_f41 {lp : LpT} (hL : LpOk lp) (G : Roms) : Ok1 G 41 (ar1 (s_f41 lp G)) :=
  .mk at_f41 <| sf1 hL (an := an_f41 lp G) (fun _ _ => obs (by kernel_rfl)) fun call a0 H n k => by kernel_rfl
noncomputable def an_f42 (lp : LpT) (G : Roms) (call : CallT) (k : KV) : An := (.s .n (.s .n (.j (fun R=>s_f42_j5 lp G call k (rg R q3)) (.s .n (.b (.l _ (s_f42_l7b lp G call k) (fun R H n=>(rg R q3, rg R q10, rg R q11, rg R q12, H, n)) fun ih7=>.n))) .n)))
theorem si_f42 {lp : LpT} (hL : LpOk lp) (G : Roms) : Ok1 G 42 (ar1 (s_f42 lp G)) :=
  .mk at_f42 <| sf1 hL (an := an_f42 lp G) (fun _ _ => obs (by kernel_rfl)) fun call a0 H n k => by kernel_rfl
noncomputable def an_f43 (lp : LpT) (G : Roms) (call : CallT) (k : KV) : An := .n
theorem si_f43 {lp : LpT} (hL : LpOk lp) (G : Roms) : Ok1 G 43 (ar2 (s_f43 lp G)) :=
  .mk at_f43 <| sf2 hL (an := an_f43 lp G) (fun _ _ => obs (by kernel_rfl)) fun call a0 a1 H n k => by kernel_rfl
noncomputable def an_f44 (lp : LpT) (G : Roms) (call : CallT) (k : KV) : An := .n
theorem si_f44 {lp : LpT} (hL : LpOk lp) (G : Roms) : Ok1 G 44 (ar2 (s_f44 lp G)) :=
  .mk at_f44 <| sf2 hL (an := an_f44 lp G) (fun _ _ => obs (by kernel_rfl)) fun call a0 a1 H n k => by kernel_rfl
noncomputable def an_f45 (lp : LpT) (G : Roms) (call : CallT) (k : KV) : An := (.s .n (.s .n (.s .n (.s .n (.s .n (.s .n (.j (fun R=>s_f45_j32 lp G call k (rg R q0) (rg R q5)) (.s .n (.b (.l _ (s_f45_l74b lp G call k) (fun R H n=>(rg R q0, rg R q5, rg R q67, rg R q68, rg R q69, H, n)) fun ih74=>.n))) (.j (fun R=>s_f45_j33 lp G call k) (.s .n (.b (.l _ (s_f45_l37b lp G call k) (fun R H n=>(rg R q0, rg R q5, rg R q92, rg R q93, rg R q94, H, n)) fun ih37=>.n))) .n))))))))
theorem si_f45 {lp : LpT} (hL : LpOk lp) (G : Roms) : Ok1 G 45 (ar2 (s_f45 lp G)) :=
  .mk at_f45 <| sf2 hL (an := an_f45 lp G) (fun _ _ => obs (by kernel_rfl)) fun call a0 a1 H n k => by kernel_rfl
noncomputable def an_f46 (lp : LpT) (G : Roms) (call : CallT) (k : KV) : An := .n
theorem si_f46 {lp : LpT} (hL : LpOk lp) (G : Roms) : Ok1 G 46 (ar1 (s_f46 lp G)) :=
  .mk at_f46 <| sf1 hL (an := an_f46 lp G) (fun _ _ => obs (by kernel_rfl)) fun call a0 H n k => by kernel_rfl
noncomputable def an_f47 (lp : LpT) (G : Roms) (call : CallT) (k : KV) : An := (.s .n (.s .n (.j (fun R=>s_f47_j11 lp G call k (rg R q0) (rg R q3) (rg R q4)) (.s .n (.b (.l _ (s_f47_l22b lp G call k) (fun R H n=>(rg R q0, rg R q3, rg R q4, rg R q16, rg R q17, rg R q18, H, n)) fun ih22=>.n))) .n)))
theorem si_f47 {lp : LpT} (hL : LpOk lp) (G : Roms) : Ok1 G 47 (ar2 (s_f47 lp G)) :=
  .mk at_f47 <| sf2 hL (an := an_f47 lp G) (fun _ _ => obs (by kernel_rfl)) fun call a0 a1 H n k => by kernel_rfl
noncomputable def an_f48 (lp : LpT) (G : Roms) (call : CallT) (k : KV) : An := .n
theorem si_f48 {lp : LpT} (hL : LpOk lp) (G : Roms) : Ok1 G 48 (ar2 (s_f48 lp G)) :=
  .mk at_f48 <| sf2 hL (an := an_f48 lp G) (fun _ _ => obs (by kernel_rfl)) fun call a0 a1 H n k => by kernel_rfl
noncomputable def an_f49 (lp : LpT) (G : Roms) (call : CallT) (k : KV) : An := .n
theorem si_f49 {lp : LpT} (hL : LpOk lp) (G : Roms) : Ok1 G 49 (ar2 (s_f49 lp G)) :=
  .mk at_f49 <| sf2 hL (an := an_f49 lp G) (fun _ _ => obs (by kernel_rfl)) fun call a0 a1 H n k => by kernel_rfl
noncomputable def an_f50 (lp : LpT) (G : Roms) (call : CallT) (k : KV) : An := .n
theorem si_f50 {lp : LpT} (hL : LpOk lp) (G : Roms) : Ok1 G 50 (ar2 (s_f50 lp G)) :=
  .mk at_f50 <| sf2 hL (an := an_f50 lp G) (fun _ _ => obs (by kernel_rfl)) fun call a0 a1 H n k => by kernel_rfl
noncomputable def an_f51 (lp : LpT) (G : Roms) (call : CallT) (k : KV) : An := (.s .n (.s .n (.j (fun R=>s_f51_j7 lp G call k (rg R q3) (rg R q4) (rg R q5)) .n (.j (fun R=>s_f51_j8 lp G call k (rg R q3) (rg R q4) (rg R q5)) (.s .n (.b (.l _ (s_f51_l20b lp G call k) (fun R H n=>(rg R q3, rg R q4, rg R q5, rg R q21, rg R q22, rg R q23, H, n)) fun ih20=>.n))) .n))))
theorem si_f51 {lp : LpT} (hL : LpOk lp) (G : Roms) : Ok1 G 51 (ar2 (s_f51 lp G)) :=
  .mk at_f51 <| sf2 hL (an := an_f51 lp G) (fun _ _ => obs (by kernel_rfl)) fun call a0 a1 H n k => by kernel_rfl
noncomputable def an_f52 (lp : LpT) (G : Roms) (call : CallT) (k : KV) : An := (.s .n (.s .n (.j (fun R=>s_f52_j20 lp G call k) (.s .n (.b (.l _ (s_f52_l24b lp G call k) (fun R H n=>(rg R q1, rg R q30, rg R q31, rg R q32, H, n)) fun ih24=>(.s .n (.s .n (.j (fun R=>s_f52_j26 lp G call k ih24 (rg R q1) (rg R q30) (rg R q31) (rg R q32)) (.b (.s .n (.s .n (.s .n (.j (fun R=>s_f52_j42 lp G call k ih24 (rg R q1) (rg R q4) (rg R q6) (rg R q30) (rg R q31) (rg R q32)) .n (.s .n (.s .n (.b (.l _ (s_f52_l71b lp G call k ih24) (fun R H n=>(rg R q1, rg R q4, rg R q30, rg R q31, rg R q32, rg R q83, rg R q84, rg R q85, H, n)) fun ih71=>.n))))))))) .n)))))) .n)))
theorem si_f52 {lp : LpT} (hL : LpOk lp) (G : Roms) : Ok1 G 52 (ar1 (s_f52 lp G)) :=
  .mk at_f52 <| sf1 hL (an := an_f52 lp G) (fun _ _ => obs (by kernel_rfl)) fun call a0 H n k => by kernel_rfl
noncomputable def an_f53 (lp : LpT) (G : Roms) (call : CallT) (k : KV) : An := (.s .n (.s .n (.j (fun R=>s_f53_j1 lp G call k (rg R q6)) (.b (.l _ (s_f53_l2b lp G call k) (fun R H n=>(rg R q0, rg R q1, rg R q6, H, n)) fun ih2=>.n)) .n)))
theorem si_f53 {lp : LpT} (hL : LpOk lp) (G : Roms) : Ok1 G 53 (ar2 (s_f53 lp G)) :=
  .mk at_f53 <| sf2 hL (an := an_f53 lp G) (fun _ _ => obs (by kernel_rfl)) fun call a0 a1 H n k => by kernel_rfl
noncomputable def an_f54 (lp : LpT) (G : Roms) (call : CallT) (k : KV) : An := (.s .n (.j (fun R=>s_f54_j3 lp G call k (rg R q4)) (.s .n (.b (.l _ (s_f54_l9b lp G call k) (fun R H n=>(rg R q1, rg R q4, rg R q9, rg R q10, rg R q11, H, n)) fun ih9=>.n))) .n))
theorem si_f54 {lp : LpT} (hL : LpOk lp) (G : Roms) : Ok1 G 54 (ar2 (s_f54 lp G)) :=
  .mk at_f54 <| sf2 hL (an := an_f54 lp G) (fun _ _ => obs (by kernel_rfl)) fun call a0 a1 H n k => by kernel_rfl
noncomputable def an_f56 (lp : LpT) (G : Roms) (call : CallT) (k : KV) : An := .n
theorem si_f56 {lp : LpT} (hL : LpOk lp) (G : Roms) : Ok1 G 56 (ar2 (s_f56 lp G)) :=
  .mk at_f56 <| sf2 hL (an := an_f56 lp G) (fun _ _ => obs (by kernel_rfl)) fun call a0 a1 H n k => by kernel_rfl
noncomputable def an_f62 (lp : LpT) (G : Roms) (call : CallT) (k : KV) : An := (.s .n (.j (fun R=>s_f62_j2 lp G call k (rg R q0) (rg R q3)) (.s .n (.b (.l _ (s_f62_l61b lp G call k) (fun R H n=>(rg R q0, rg R q3, rg R q17, rg R q18, rg R q19, H, n)) fun ih61=>.n))) (.s .n (.j (fun R=>s_f62_j10 lp G call k (rg R q0) (rg R q3)) (.s .n (.b (.l _ (s_f62_l30b lp G call k) (fun R H n=>(rg R q0, rg R q3, rg R q42, rg R q43, rg R q44, H, n)) fun ih30=>.n))) (.j (fun R=>s_f62_j11 lp G call k) (.s .n (.b (.l _ (s_f62_l15b lp G call k) (fun R H n=>(rg R q0, rg R q73, rg R q74, rg R q75, H, n)) fun ih15=>.n))) .n)))))
theorem si_f62 {lp : LpT} (hL : LpOk lp) (G : Roms) : Ok1 G 62 (ar2 (s_f62 lp G)) :=
  .mk at_f62 <| sf2 hL (an := an_f62 lp G) (fun _ _ => obs (by kernel_rfl)) fun call a0 a1 H n k => by kernel_rfl
noncomputable def an_f63 (lp : LpT) (G : Roms) (call : CallT) (k : KV) : An := .n
theorem si_f63 {lp : LpT} (hL : LpOk lp) (G : Roms) : Ok1 G 63 (ar1 (s_f63 lp G)) :=
  .mk at_f63 <| sf1 hL (an := an_f63 lp G) (fun _ _ => obs (by kernel_rfl)) fun call a0 H n k => by kernel_rfl
noncomputable def an_f64 (lp : LpT) (G : Roms) (call : CallT) (k : KV) : An := .n
theorem si_f64 {lp : LpT} (hL : LpOk lp) (G : Roms) : Ok1 G 64 (ar2 (s_f64 lp G)) :=
  .mk at_f64 <| sf2 hL (an := an_f64 lp G) (fun _ _ => obs (by kernel_rfl)) fun call a0 a1 H n k => by kernel_rfl
noncomputable def an_f65 (lp : LpT) (G : Roms) (call : CallT) (k : KV) : An := (.s .n (.s .n (.s .n (.j (fun R=>s_f65_j9 lp G call k (rg R q0) (rg R q3) (rg R q4)) .n (.s .n (.s .n (.s .n (.j (fun R=>s_f65_j29 lp G call k) (.b (.l _ (s_f65_l30b lp G call k) (fun R H n=>(rg R q0, H, n)) fun ih30=>.n)) .n))))))))
theorem si_f65 {lp : LpT} (hL : LpOk lp) (G : Roms) : Ok1 G 65 (ar1 (s_f65 lp G)) :=
  .mk at_f65 <| sf1 hL (an := an_f65 lp G) (fun _ _ => obs (by kernel_rfl)) fun call a0 H n k => by kernel_rfl
noncomputable def an_f66 (lp : LpT) (G : Roms) (call : CallT) (k : KV) : An := (.s .n (.j (fun R=>s_f66_j1 lp G call k) (.s .n (.b (.l _ (s_f66_l3b lp G call k) (fun R H n=>(rg R q0, rg R q1, rg R q7, rg R q8, H, n)) fun ih3=>.n))) .n))
theorem si_f66 {lp : LpT} (hL : LpOk lp) (G : Roms) : Ok1 G 66 (ar2 (s_f66 lp G)) :=
  .mk at_f66 <| sf2 hL (an := an_f66 lp G) (fun _ _ => obs (by kernel_rfl)) fun call a0 a1 H n k => by kernel_rfl
noncomputable def an_f67 (lp : LpT) (G : Roms) (call : CallT) (k : KV) : An := (.s .n (.s .n (.j (fun R=>s_f67_j10 lp G call k) (.s .n (.b (.l _ (s_f67_l12b lp G call k) (fun R H n=>(rg R q0, rg R q3, rg R q24, rg R q25, rg R q26, H, n)) fun ih12=>.n))) .n)))
theorem si_f67 {lp : LpT} (hL : LpOk lp) (G : Roms) : Ok1 G 67 (ar2 (s_f67 lp G)) :=
  .mk at_f67 <| sf2 hL (an := an_f67 lp G) (fun _ _ => obs (by kernel_rfl)) fun call a0 a1 H n k => by kernel_rfl
noncomputable def an_f68 (lp : LpT) (G : Roms) (call : CallT) (k : KV) : An := (.s .n (.s .n (.j (fun R=>s_f68_j7 lp G call k (rg R q6)) (.s .n (.b (.l _ (s_f68_l14b lp G call k) (fun R H n=>(rg R q2, rg R q6, rg R q8, rg R q20, rg R q21, rg R q22, H, n)) fun ih14=>.n))) .n)))
theorem si_f68 {lp : LpT} (hL : LpOk lp) (G : Roms) : Ok1 G 68 (ar3 (s_f68 lp G)) :=
  .mk at_f68 <| sf3 hL (an := an_f68 lp G) (fun _ _ => obs (by kernel_rfl)) fun call a0 a1 a2 H n k => by kernel_rfl
noncomputable def an_f69 (lp : LpT) (G : Roms) (call : CallT) (k : KV) : An := .n
theorem si_f69 {lp : LpT} (hL : LpOk lp) (G : Roms) : Ok1 G 69 (ar2 (s_f69 lp G)) :=
  .mk at_f69 <| sf2 hL (an := an_f69 lp G) (fun _ _ => obs (by kernel_rfl)) fun call a0 a1 H n k => by kernel_rfl
noncomputable def an_f70 (lp : LpT) (G : Roms) (call : CallT) (k : KV) : An := .n
theorem si_f70 {lp : LpT} (hL : LpOk lp) (G : Roms) : Ok1 G 70 (ar1 (s_f70 lp G)) :=
  .mk at_f70 <| sf1 hL (an := an_f70 lp G) (fun _ _ => obs (by kernel_rfl)) fun call a0 H n k => by kernel_rfl
noncomputable def an_f71 (lp : LpT) (G : Roms) (call : CallT) (k : KV) : An := (.s .n (.s .n (.b (.s .n (.c .n (.s .n (.c .n (.s .n (.c .n (.s .n (.c .n (.s .n (.c .n (.s .n (.c .n (.s .n (.c .n (.s .n (.c .n (.s .n (.c .n (.s .n (.c .n (.s .n (.c .n (.j (fun R=>s_f71_j98 lp G call k (rg R q0) (rg R q1) (rg R q5) (rg R q144)) .n .n))))))))))))))))))))))))))
theorem si_f71 {lp : LpT} (hL : LpOk lp) (G : Roms) : Ok1 G 71 (ar3 (s_f71 lp G)) :=
  .mk at_f71 <| sf3 hL (an := an_f71 lp G) (fun _ _ => obs (by kernel_rfl)) fun call a0 a1 a2 H n k => by kernel_rfl
noncomputable def an_f72 (lp : LpT) (G : Roms) (call : CallT) (k : KV) : An := .n
theorem si_f72 {lp : LpT} (hL : LpOk lp) (G : Roms) : Ok1 G 72 (ar3 (s_f72 lp G)) :=
  .mk at_f72 <| sf3 hL (an := an_f72 lp G) (fun _ _ => obs (by kernel_rfl)) fun call a0 a1 a2 H n k => by kernel_rfl
noncomputable def an_f73 (lp : LpT) (G : Roms) (call : CallT) (k : KV) : An := .n
theorem si_f73 {lp : LpT} (hL : LpOk lp) (G : Roms) : Ok1 G 73 (ar3 (s_f73 lp G)) :=
  .mk at_f73 <| sf3 hL (an := an_f73 lp G) (fun _ _ => obs (by kernel_rfl)) fun call a0 a1 a2 H n k => by kernel_rfl
noncomputable def an_f74 (lp : LpT) (G : Roms) (call : CallT) (k : KV) : An := (.s .n (.j (fun R=>s_f74_j2 lp G call k (rg R q4)) .n .n))
theorem si_f74 {lp : LpT} (hL : LpOk lp) (G : Roms) : Ok1 G 74 (ar2 (s_f74 lp G)) :=
  .mk at_f74 <| sf2 hL (an := an_f74 lp G) (fun _ _ => obs (by kernel_rfl)) fun call a0 a1 H n k => by kernel_rfl
noncomputable def an_f75 (lp : LpT) (G : Roms) (call : CallT) (k : KV) : An := .n
theorem si_f75 {lp : LpT} (hL : LpOk lp) (G : Roms) : Ok1 G 75 (ar1 (s_f75 lp G)) :=
  .mk at_f75 <| sf1 hL (an := an_f75 lp G) (fun _ _ => obs (by kernel_rfl)) fun call a0 H n k => by kernel_rfl
noncomputable def an_f76 (lp : LpT) (G : Roms) (call : CallT) (k : KV) : An := (.s .n (.b (.l _ (s_f76_l2b lp G call k) (fun R H n=>(rg R q0, rg R q6, rg R q7, rg R q8, H, n)) fun ih2=>.n)))
theorem si_f76 {lp : LpT} (hL : LpOk lp) (G : Roms) : Ok1 G 76 (ar2 (s_f76 lp G)) :=
  .mk at_f76 <| sf2 hL (an := an_f76 lp G) (fun _ _ => obs (by kernel_rfl)) fun call a0 a1 H n k => by kernel_rfl
noncomputable def an_f77 (lp : LpT) (G : Roms) (call : CallT) (k : KV) : An := .n
theorem si_f77 {lp : LpT} (hL : LpOk lp) (G : Roms) : Ok1 G 77 (ar1 (s_f77 lp G)) :=
  .mk at_f77 <| sf1 hL (an := an_f77 lp G) (fun _ _ => obs (by kernel_rfl)) fun call a0 H n k => by kernel_rfl
noncomputable def an_f80 (lp : LpT) (G : Roms) (call : CallT) (k : KV) : An := (.b (.l _ (s_f80_l1b lp G call k) (fun R H n=>(rg R q0, H, n)) fun ih1=>(.s .n (.b (.s .n (.b (.s .n (.c .n (.s .n (.c (.s .n (.j (fun R=>s_f80_j44 lp G call k ih1 (rg R q0) (rg R q3)) .n .n)) .n))))))))))
theorem si_f80 {lp : LpT} (hL : LpOk lp) (G : Roms) : Ok1 G 80 (ar1 (s_f80 lp G)) :=
  .mk at_f80 <| sf1 hL (an := an_f80 lp G) (fun _ _ => obs (by kernel_rfl)) fun call a0 H n k => by kernel_rfl
noncomputable def an_f81 (lp : LpT) (G : Roms) (call : CallT) (k : KV) : An := (.s .n (.s .n (.s .n (.s .n (.j (fun R=>s_f81_j25 lp G call k (rg R q0) (rg R q2) (rg R q4)) (.b (.s .n (.c .n (.s .n (.c .n (.s .n (.c .n (.s .n (.b (.l _ (s_f81_l81b lp G call k) (fun R H n=>(rg R q0, rg R q2, rg R q4, rg R q34, rg R q35, H, n)) fun ih81=>.n)))))))))) .n)))))
theorem si_f81 {lp : LpT} (hL : LpOk lp) (G : Roms) : Ok1 G 81 (ar1 (s_f81 lp G)) :=
  .mk at_f81 <| sf1 hL (an := an_f81 lp G) (fun _ _ => obs (by kernel_rfl)) fun call a0 H n k => by kernel_rfl
noncomputable def an_f82 (lp : LpT) (G : Roms) (call : CallT) (k : KV) : An := (.s .n (.b (.l _ (s_f82_l2b lp G call k) (fun R H n=>(rg R q0, rg R q6, rg R q7, rg R q8, H, n)) fun ih2=>(.s .n (.s .n (.j (fun R=>s_f82_j4 lp G call k ih2 (rg R q0) (rg R q6) (rg R q7) (rg R q8)) .n .n))))))
theorem si_f82 {lp : LpT} (hL : LpOk lp) (G : Roms) : Ok1 G 82 (ar2 (s_f82 lp G)) :=
  .mk at_f82 <| sf2 hL (an := an_f82 lp G) (fun _ _ => obs (by kernel_rfl)) fun call a0 a1 H n k => by kernel_rfl
noncomputable def an_f83 (lp : LpT) (G : Roms) (call : CallT) (k : KV) : An := .n
theorem si_f83 {lp : LpT} (hL : LpOk lp) (G : Roms) : Ok1 G 83 (ar2 (s_f83 lp G)) :=
  .mk at_f83 <| sf2 hL (an := an_f83 lp G) (fun _ _ => obs (by kernel_rfl)) fun call a0 a1 H n k => by kernel_rfl
noncomputable def an_f84 (lp : LpT) (G : Roms) (call : CallT) (k : KV) : An := .n
theorem si_f84 {lp : LpT} (hL : LpOk lp) (G : Roms) : Ok1 G 84 (ar2 (s_f84 lp G)) :=
  .mk at_f84 <| sf2 hL (an := an_f84 lp G) (fun _ _ => obs (by kernel_rfl)) fun call a0 a1 H n k => by kernel_rfl
noncomputable def an_f85 (lp : LpT) (G : Roms) (call : CallT) (k : KV) : An := (.s .n (.s .n (.j (fun R=>s_f85_j5 lp G call k (rg R q2) (rg R q3)) .n .n)))
theorem si_f85 {lp : LpT} (hL : LpOk lp) (G : Roms) : Ok1 G 85 (ar1 (s_f85 lp G)) :=
  .mk at_f85 <| sf1 hL (an := an_f85 lp G) (fun _ _ => obs (by kernel_rfl)) fun call a0 H n k => by kernel_rfl
noncomputable def an_f86 (lp : LpT) (G : Roms) (call : CallT) (k : KV) : An := .n
theorem si_f86 {lp : LpT} (hL : LpOk lp) (G : Roms) : Ok1 G 86 (ar2 (s_f86 lp G)) :=
  .mk at_f86 <| sf2 hL (an := an_f86 lp G) (fun _ _ => obs (by kernel_rfl)) fun call a0 a1 H n k => by kernel_rfl
noncomputable def an_f87 (lp : LpT) (G : Roms) (call : CallT) (k : KV) : An := (.s .n (.j (fun R=>s_f87_j1 lp G call k) (.s .n (.b (.l _ (s_f87_l3b lp G call k) (fun R H n=>(rg R q0, rg R q7, rg R q8, rg R q9, H, n)) fun ih3=>.n))) .n))
theorem si_f87 {lp : LpT} (hL : LpOk lp) (G : Roms) : Ok1 G 87 (ar2 (s_f87 lp G)) :=
  .mk at_f87 <| sf2 hL (an := an_f87 lp G) (fun _ _ => obs (by kernel_rfl)) fun call a0 a1 H n k => by kernel_rfl
noncomputable def an_f88 (lp : LpT) (G : Roms) (call : CallT) (k : KV) : An := (.s .n (.s .n (.s .n (.s .n (.s .n (.s .n (.s .n (.j (fun R=>s_f88_j25 lp G call k (rg R q0) (rg R q2) (rg R q4)) (.b (.l _ (s_f88_l31b lp G call k) (fun R H n=>(rg R q0, rg R q2, rg R q4, H, n)) fun ih31=>(.s .n (.b (.j (fun R=>s_f88_j37 lp G call k ih31 (rg R q0) (rg R q2) (rg R q4)) .n .n))))) .n))))))))
theorem si_f88 {lp : LpT} (hL : LpOk lp) (G : Roms) : Ok1 G 88 (ar1 (s_f88 lp G)) :=
  .mk at_f88 <| sf1 hL (an := an_f88 lp G) (fun _ _ => obs (by kernel_rfl)) fun call a0 H n k => by kernel_rfl
noncomputable def an_f89 (lp : LpT) (G : Roms) (call : CallT) (k : KV) : An := .n
theorem si_f89 {lp : LpT} (hL : LpOk lp) (G : Roms) : Ok1 G 89 (ar2 (s_f89 lp G)) :=
  .mk at_f89 <| sf2 hL (an := an_f89 lp G) (fun _ _ => obs (by kernel_rfl)) fun call a0 a1 H n k => by kernel_rfl
noncomputable def an_f90 (lp : LpT) (G : Roms) (call : CallT) (k : KV) : An := .n
theorem si_f90 {lp : LpT} (hL : LpOk lp) (G : Roms) : Ok1 G 90 (ar1 (s_f90 lp G)) :=
  .mk at_f90 <| sf1 hL (an := an_f90 lp G) (fun _ _ => obs (by kernel_rfl)) fun call a0 H n k => by kernel_rfl
noncomputable def an_f91 (lp : LpT) (G : Roms) (call : CallT) (k : KV) : An := (.s .n (.s .n (.j (fun R=>s_f91_j12 lp G call k (rg R q2) (rg R q3)) (.s .n (.b (.l _ (s_f91_l18b lp G call k) (fun R H n=>(rg R q2, rg R q3, rg R q14, rg R q15, rg R q16, H, n)) fun ih18=>.n))) .n)))
theorem si_f91 {lp : LpT} (hL : LpOk lp) (G : Roms) : Ok1 G 91 (ar1 (s_f91 lp G)) :=
  .mk at_f91 <| sf1 hL (an := an_f91 lp G) (fun _ _ => obs (by kernel_rfl)) fun call a0 H n k => by kernel_rfl
noncomputable def an_f92 (lp : LpT) (G : Roms) (call : CallT) (k : KV) : An := .n
theorem si_f92 {lp : LpT} (hL : LpOk lp) (G : Roms) : Ok1 G 92 (ar1 (s_f92 lp G)) :=
  .mk at_f92 <| sf1 hL (an := an_f92 lp G) (fun _ _ => obs (by kernel_rfl)) fun call a0 H n k => by kernel_rfl
noncomputable def an_f93 (lp : LpT) (G : Roms) (call : CallT) (k : KV) : An := (.s .n (.s .n (.j (fun R=>s_f93_j4 lp G call k) (.s .n (.b (.l _ (s_f93_l6b lp G call k) (fun R H n=>(rg R q0, rg R q1, rg R q12, rg R q13, H, n)) fun ih6=>.n))) .n)))
theorem si_f93 {lp : LpT} (hL : LpOk lp) (G : Roms) : Ok1 G 93 (ar2 (s_f93 lp G)) :=
  .mk at_f93 <| sf2 hL (an := an_f93 lp G) (fun _ _ => obs (by kernel_rfl)) fun call a0 a1 H n k => by kernel_rfl
noncomputable def an_f94 (lp : LpT) (G : Roms) (call : CallT) (k : KV) : An := (.s .n (.s .n (.j (fun R=>s_f94_j4 lp G call k) (.s .n (.b (.l _ (s_f94_l6b lp G call k) (fun R H n=>(rg R q1, rg R q2, rg R q15, rg R q16, rg R q17, H, n)) fun ih6=>.n))) .n)))
theorem si_f94 {lp : LpT} (hL : LpOk lp) (G : Roms) : Ok1 G 94 (ar3 (s_f94 lp G)) :=
  .mk at_f94 <| sf3 hL (an := an_f94 lp G) (fun _ _ => obs (by kernel_rfl)) fun call a0 a1 a2 H n k => by kernel_rfl
noncomputable def an_f95 (lp : LpT) (G : Roms) (call : CallT) (k : KV) : An := .n
theorem si_f95 {lp : LpT} (hL : LpOk lp) (G : Roms) : Ok1 G 95 (ar2 (s_f95 lp G)) :=
  .mk at_f95 <| sf2 hL (an := an_f95 lp G) (fun _ _ => obs (by kernel_rfl)) fun call a0 a1 H n k => by kernel_rfl
noncomputable def an_f96 (lp : LpT) (G : Roms) (call : CallT) (k : KV) : An := (.s .n (.j (fun R=>s_f96_j2 lp G call k (rg R q1)) (.s .n (.b (.l _ (s_f96_l29b lp G call k) (fun R H n=>(rg R q1, rg R q7, rg R q8, H, n)) fun ih29=>.n))) (.j (fun R=>s_f96_j3 lp G call k) (.s .n (.b (.l _ (s_f96_l7b lp G call k) (fun R H n=>(rg R q1, rg R q32, rg R q33, H, n)) fun ih7=>.n))) .n)))
theorem si_f96 {lp : LpT} (hL : LpOk lp) (G : Roms) : Ok1 G 96 (ar1 (s_f96 lp G)) :=
  .mk at_f96 <| sf1 hL (an := an_f96 lp G) (fun _ _ => obs (by kernel_rfl)) fun call a0 H n k => by kernel_rfl
noncomputable def an_f97 (lp : LpT) (G : Roms) (call : CallT) (k : KV) : An := (.s .n (.j (fun R=>s_f97_j1 lp G call k) (.s .n (.b (.l _ (s_f97_l3b lp G call k) (fun R H n=>(rg R q0, rg R q9, rg R q10, rg R q11, H, n)) fun ih3=>(.s .n (.s .n (.j (fun R=>s_f97_j5 lp G call k ih3 (rg R q0) (rg R q9) (rg R q10) (rg R q11)) .n .n)))))) .n))
theorem si_f97 {lp : LpT} (hL : LpOk lp) (G : Roms) : Ok1 G 97 (ar2 (s_f97 lp G)) :=
  .mk at_f97 <| sf2 hL (an := an_f97 lp G) (fun _ _ => obs (by kernel_rfl)) fun call a0 a1 H n k => by kernel_rfl
noncomputable def an_f98 (lp : LpT) (G : Roms) (call : CallT) (k : KV) : An := (.s .n (.s .n (.j (fun R=>s_f98_j5 lp G call k (rg R q7)) (.s .n (.b (.l _ (s_f98_l9b lp G call k) (fun R H n=>(rg R q0, rg R q2, rg R q7, rg R q23, rg R q24, rg R q25, H, n)) fun ih9=>.n))) .n)))
theorem si_f98 {lp : LpT} (hL : LpOk lp) (G : Roms) : Ok1 G 98 (ar3 (s_f98 lp G)) :=
  .mk at_f98 <| sf3 hL (an := an_f98 lp G) (fun _ _ => obs (by kernel_rfl)) fun call a0 a1 a2 H n k => by kernel_rfl
noncomputable def an_f99 (lp : LpT) (G : Roms) (call : CallT) (k : KV) : An := .n
theorem si_f99 {lp : LpT} (hL : LpOk lp) (G : Roms) : Ok1 G 99 (ar3 (s_f99 lp G)) :=
  .mk at_f99 <| sf3 hL (an := an_f99 lp G) (fun _ _ => obs (by kernel_rfl)) fun call a0 a1 a2 H n k => by kernel_rfl
noncomputable def an_f100 (lp : LpT) (G : Roms) (call : CallT) (k : KV) : An := (.s .n (.s .n (.s .n (.j (fun R=>s_f100_j6 lp G call k (rg R q0) (rg R q5) (rg R q6)) (.s .n (.b (.l _ (s_f100_l17b lp G call k) (fun R H n=>(rg R q0, rg R q5, rg R q6, rg R q15, rg R q16, rg R q17, H, n)) fun ih17=>.n))) .n))))
theorem si_f100 {lp : LpT} (hL : LpOk lp) (G : Roms) : Ok1 G 100 (ar2 (s_f100 lp G)) :=
  .mk at_f100 <| sf2 hL (an := an_f100 lp G) (fun _ _ => obs (by kernel_rfl)) fun call a0 a1 H n k => by kernel_rfl
noncomputable def an_f101 (lp : LpT) (G : Roms) (call : CallT) (k : KV) : An := (.s .n (.s .n (.j (fun R=>s_f101_j1 lp G call k (rg R q0) (rg R q1) (rg R q2) (rg R q6) (rg R q7)) (.b (.l _ (s_f101_l18b lp G call k) (fun R H n=>(rg R q0, rg R q1, rg R q2, rg R q6, rg R q7, rg R q8, H, n)) fun ih18=>.n)) (.s .n (.b (.l _ (s_f101_l3b lp G call k) (fun R H n=>(rg R q0, rg R q1, rg R q2, rg R q6, H, n)) fun ih3=>(.s .n (.b (.s .n (.j (fun R=>s_f101_j6 lp G call k ih3 (rg R q0) (rg R q1) (rg R q2) (rg R q6) (rg R q7)) (.b (.l _ (s_f101_l12b lp G call k ih3) (fun R H n=>(rg R q0, rg R q1, rg R q2, rg R q6, rg R q7, rg R q8, H, n)) fun ih12=>.n)) (.j (fun R=>s_f101_j7 lp G call k ih3 (rg R q0) (rg R q1) (rg R q2) (rg R q6)) .n .n)))))))))))
theorem si_f101 {lp : LpT} (hL : LpOk lp) (G : Roms) : Ok1 G 101 (ar3 (s_f101 lp G)) :=
  .mk at_f101 <| sf3 hL (an := an_f101 lp G) (fun _ _ => obs (by kernel_rfl)) fun call a0 a1 a2 H n k => by kernel_rfl
noncomputable def an_f102 (lp : LpT) (G : Roms) (call : CallT) (k : KV) : An := .n
theorem si_f102 {lp : LpT} (hL : LpOk lp) (G : Roms) : Ok1 G 102 (ar2 (s_f102 lp G)) :=
  .mk at_f102 <| sf2 hL (an := an_f102 lp G) (fun _ _ => obs (by kernel_rfl)) fun call a0 a1 H n k => by kernel_rfl
noncomputable def an_f103 (lp : LpT) (G : Roms) (call : CallT) (k : KV) : An := .n
theorem si_f103 {lp : LpT} (hL : LpOk lp) (G : Roms) : Ok1 G 103 (ar2 (s_f103 lp G)) :=
  .mk at_f103 <| sf2 hL (an := an_f103 lp G) (fun _ _ => obs (by kernel_rfl)) fun call a0 a1 H n k => by kernel_rfl
noncomputable def an_f104 (lp : LpT) (G : Roms) (call : CallT) (k : KV) : An := (.s .n (.j (fun R=>s_f104_j5 lp G call k (rg R q0) (rg R q4)) (.s .n (.b (.l _ (s_f104_l21b lp G call k) (fun R H n=>(rg R q0, rg R q4, rg R q12, rg R q13, rg R q14, H, n)) fun ih21=>.n))) .n))
theorem si_f104 {lp : LpT} (hL : LpOk lp) (G : Roms) : Ok1 G 104 (ar2 (s_f104 lp G)) :=
  .mk at_f104 <| sf2 hL (an := an_f104 lp G) (fun _ _ => obs (by kernel_rfl)) fun call a0 a1 H n k => by kernel_rfl
noncomputable def an_f105 (lp : LpT) (G : Roms) (call : CallT) (k : KV) : An := (.j (fun R=>s_f105_j1 lp G call k (rg R q0)) .n .n)
theorem si_f105 {lp : LpT} (hL : LpOk lp) (G : Roms) : Ok1 G 105 (ar1 (s_f105 lp G)) :=
  .mk at_f105 <| sf1 hL (an := an_f105 lp G) (fun _ _ => obs (by kernel_rfl)) fun call a0 H n k => by kernel_rfl
noncomputable def an_f106 (lp : LpT) (G : Roms) (call : CallT) (k : KV) : An := (.s .n (.s .n (.s .n (.j (fun R=>s_f106_j38 lp G call k (rg R q1)) (.s .n (.b (.l _ (s_f106_l77b lp G call k) (fun R H n=>(rg R q1, rg R q3, rg R q50, rg R q51, rg R q52, H, n)) fun ih77=>.n))) (.s .n (.j (fun R=>s_f106_j39 lp G call k) (.s .n (.b (.l _ (s_f106_l43b lp G call k) (fun R H n=>(rg R q3, rg R q76, rg R q77, rg R q78, H, n)) fun ih43=>.n))) .n))))))
theorem si_f106 {lp : LpT} (hL : LpOk lp) (G : Roms) : Ok1 G 106 (ar1 (s_f106 lp G)) :=
  .mk at_f106 <| sf1 hL (an := an_f106 lp G) (fun _ _ => obs (by kernel_rfl)) fun call a0 H n k => by kernel_rfl
noncomputable def an_f107 (lp : LpT) (G : Roms) (call : CallT) (k : KV) : An := (.s .n (.j (fun R=>s_f107_j2 lp G call k (rg R q1)) (.s .n (.b (.l _ (s_f107_l97b lp G call k) (fun R H n=>(rg R q1, rg R q28, rg R q29, rg R q30, H, n)) fun ih97=>.n))) (.j (fun R=>s_f107_j3 lp G call k (rg R q1)) (.s .n (.b (.l _ (s_f107_l73b lp G call k) (fun R H n=>(rg R q1, rg R q38, rg R q39, rg R q40, H, n)) fun ih73=>.n))) (.j (fun R=>s_f107_j4 lp G call k (rg R q1)) (.s .n (.b (.l _ (s_f107_l60b lp G call k) (fun R H n=>(rg R q1, rg R q49, rg R q50, rg R q51, H, n)) fun ih60=>.n))) (.j (fun R=>s_f107_j5 lp G call k (rg R q1)) (.s .n (.b (.l _ (s_f107_l29b lp G call k) (fun R H n=>(rg R q1, rg R q60, rg R q61, rg R q62, H, n)) fun ih29=>.n))) (.j (fun R=>s_f107_j6 lp G call k) (.s .n (.b (.l _ (s_f107_l10b lp G call k) (fun R H n=>(rg R q92, rg R q93, rg R q94, H, n)) fun ih10=>.n))) .n))))))
theorem si_f107 {lp : LpT} (hL : LpOk lp) (G : Roms) : Ok1 G 107 (ar1 (s_f107 lp G)) :=
  .mk at_f107 <| sf1 hL (an := an_f107 lp G) (fun _ _ => obs (by kernel_rfl)) fun call a0 H n k => by kernel_rfl
noncomputable def an_f108 (lp : LpT) (G : Roms) (call : CallT) (k : KV) : An := .n
theorem si_f108 {lp : LpT} (hL : LpOk lp) (G : Roms) : Ok1 G 108 (ar2 (s_f108 lp G)) :=
  .mk at_f108 <| sf2 hL (an := an_f108 lp G) (fun _ _ => obs (by kernel_rfl)) fun call a0 a1 H n k => by kernel_rfl
noncomputable def an_f109 (lp : LpT) (G : Roms) (call : CallT) (k : KV) : An := .n
theorem si_f109 {lp : LpT} (hL : LpOk lp) (G : Roms) : Ok1 G 109 (ar2 (s_f109 lp G)) :=
  .mk at_f109 <| sf2 hL (an := an_f109 lp G) (fun _ _ => obs (by kernel_rfl)) fun call a0 a1 H n k => by kernel_rfl
noncomputable def an_f110 (lp : LpT) (G : Roms) (call : CallT) (k : KV) : An := (.s .n (.s .n (.j (fun R=>s_f110_j4 lp G call k) (.s .n (.b (.l _ (s_f110_l6b lp G call k) (fun R H n=>(rg R q0, rg R q1, rg R q12, rg R q13, H, n)) fun ih6=>.n))) .n)))
theorem si_f110 {lp : LpT} (hL : LpOk lp) (G : Roms) : Ok1 G 110 (ar2 (s_f110 lp G)) :=
  .mk at_f110 <| sf2 hL (an := an_f110 lp G) (fun _ _ => obs (by kernel_rfl)) fun call a0 a1 H n k => by kernel_rfl
noncomputable def an_f113 (lp : LpT) (G : Roms) (call : CallT) (k : KV) : An := .n
theorem si_f113 {lp : LpT} (hL : LpOk lp) (G : Roms) : Ok1 G 113 (ar3 (s_f113 lp G)) :=
  .mk at_f113 <| sf3 hL (an := an_f113 lp G) (fun _ _ => obs (by kernel_rfl)) fun call a0 a1 a2 H n k => by kernel_rfl
noncomputable def an_f116 (lp : LpT) (G : Roms) (call : CallT) (k : KV) : An := .n
theorem si_f116 {lp : LpT} (hL : LpOk lp) (G : Roms) : Ok1 G 116 (ar1 (s_f116 lp G)) :=
  .mk at_f116 <| sf1 hL (an := an_f116 lp G) (fun _ _ => obs (by kernel_rfl)) fun call a0 H n k => by kernel_rfl
noncomputable def an_f117 (lp : LpT) (G : Roms) (call : CallT) (k : KV) : An := (.s .n (.s .n (.s .n (.s .n (.s .n (.s .n (.j (fun R=>s_f117_j39 lp G call k (rg R q0) (rg R q1) (rg R q5) (rg R q7) (rg R q9)) (.s .n (.b (.l _ (s_f117_l93b lp G call k) (fun R H n=>(rg R q0, rg R q1, rg R q5, rg R q7, rg R q9, rg R q63, rg R q64, rg R q65, H, n)) fun ih93=>.n))) (.j (fun R=>s_f117_j40 lp G call k (rg R q0) (rg R q1) (rg R q9)) (.s .n (.b (.l _ (s_f117_l53b lp G call k) (fun R H n=>(rg R q0, rg R q1, rg R q7, rg R q9, rg R q109, rg R q110, rg R q111, H, n)) fun ih53=>.n))) (.j (fun R=>s_f117_j41 lp G call k) .n .n)))))))))
theorem si_f117 {lp : LpT} (hL : LpOk lp) (G : Roms) : Ok1 G 117 (ar3 (s_f117 lp G)) :=
  .mk at_f117 <| sf3 hL (an := an_f117 lp G) (fun _ _ => obs (by kernel_rfl)) fun call a0 a1 a2 H n k => by kernel_rfl
noncomputable def an_f118 (lp : LpT) (G : Roms) (call : CallT) (k : KV) : An := .n
theorem si_f118 {lp : LpT} (hL : LpOk lp) (G : Roms) : Ok1 G 118 (ar1 (s_f118 lp G)) :=
  .mk at_f118 <| sf1 hL (an := an_f118 lp G) (fun _ _ => obs (by kernel_rfl)) fun call a0 H n k => by kernel_rfl
noncomputable def an_f119 (lp : LpT) (G : Roms) (call : CallT) (k : KV) : An := (.s .n (.s .n (.s (.s .n (.b (.s .n (.c .n (.s .n (.c .n (.s .n (.c .n (.s .n (.c .n (.s .n (.c .n (.j (fun R=>s_f119_j55 lp G call k (rg R q0) (rg R q1) (rg R q5) (rg R q7) (rg R q8) (rg R q20) (rg R q80)) .n (.c .n (.j (fun R=>s_f119_j65 lp G call k (rg R q0) (rg R q1) (rg R q5) (rg R q7) (rg R q8) (rg R q20) (rg R q98)) .n (.c .n (.s .n (.c .n (.s .n (.c .n (.j (fun R=>s_f119_j93 lp G call k (rg R q0) (rg R q1) (rg R q5) (rg R q7) (rg R q8) (rg R q20) (rg R q139)) .n .n))))))))))))))))))))) .n)))
theorem si_f119 {lp : LpT} (hL : LpOk lp) (G : Roms) : Ok1 G 119 (ar3 (s_f119 lp G)) :=
  .mk at_f119 <| sf3 hL (an := an_f119 lp G) (fun _ _ => obs (by kernel_rfl)) fun call a0 a1 a2 H n k => by kernel_rfl
noncomputable def an_f120 (lp : LpT) (G : Roms) (call : CallT) (k : KV) : An := .n
theorem si_f120 {lp : LpT} (hL : LpOk lp) (G : Roms) : Ok1 G 120 (ar3 (s_f120 lp G)) :=
  .mk at_f120 <| sf3 hL (an := an_f120 lp G) (fun _ _ => obs (by kernel_rfl)) fun call a0 a1 a2 H n k => by kernel_rfl
noncomputable def an_f121 (lp : LpT) (G : Roms) (call : CallT) (k : KV) : An := .n
theorem si_f121 {lp : LpT} (hL : LpOk lp) (G : Roms) : Ok1 G 121 (ar1 (s_f121 lp G)) :=
  .mk at_f121 <| sf1 hL (an := an_f121 lp G) (fun _ _ => obs (by kernel_rfl)) fun call a0 H n k => by kernel_rfl
noncomputable def an_f122 (lp : LpT) (G : Roms) (call : CallT) (k : KV) : An := .n
theorem si_f122 {lp : LpT} (hL : LpOk lp) (G : Roms) : Ok1 G 122 (ar1 (s_f122 lp G)) :=
  .mk at_f122 <| sf1 hL (an := an_f122 lp G) (fun _ _ => obs (by kernel_rfl)) fun call a0 H n k => by kernel_rfl
noncomputable def an_f123 (lp : LpT) (G : Roms) (call : CallT) (k : KV) : An := (.s .n (.s .n (.b (.s .n (.c .n (.s .n (.c .n (.s .n (.c .n (.s .n (.c .n (.s .n (.c .n (.j (fun R=>s_f123_j32 lp G call k (rg R q0) (rg R q1) (rg R q2) (rg R q3) (rg R q8) (rg R q9) (rg R q93)) .n .n))))))))))))))
theorem si_f123 {lp : LpT} (hL : LpOk lp) (G : Roms) : Ok1 G 123 (ar4 (s_f123 lp G)) :=
  .mk at_f123 <| sf4 hL (an := an_f123 lp G) (fun _ _ => obs (by kernel_rfl)) fun call a0 a1 a2 a3 H n k => by kernel_rfl
noncomputable def an_f124 (lp : LpT) (G : Roms) (call : CallT) (k : KV) : An := (.s .n (.s .n (.b (.s .n (.c .n (.s .n (.c .n (.j (fun R=>s_f124_j25 lp G call k (rg R q0) (rg R q1) (rg R q5) (rg R q14) (rg R q52)) .n (.c .n (.j (fun R=>s_f124_j74 lp G call k (rg R q0) (rg R q1) (rg R q5) (rg R q14) (rg R q113)) .n (.c (.s .n (.s .n (.j (fun R=>s_f124_j90 lp G call k (rg R q0) (rg R q1) (rg R q5) (rg R q9) (rg R q10)) .n (.s .n (.j (fun R=>s_f124_j92 lp G call k (rg R q0) (rg R q9) (rg R q11)) .n .n))))) .n)))))))))))
theorem si_f124 {lp : LpT} (hL : LpOk lp) (G : Roms) : Ok1 G 124 (ar3 (s_f124 lp G)) :=
  .mk at_f124 <| sf3 hL (an := an_f124 lp G) (fun _ _ => obs (by kernel_rfl)) fun call a0 a1 a2 H n k => by kernel_rfl
noncomputable def an_f125 (lp : LpT) (G : Roms) (call : CallT) (k : KV) : An := .n
theorem si_f125 {lp : LpT} (hL : LpOk lp) (G : Roms) : Ok1 G 125 (ar1 (s_f125 lp G)) :=
  .mk at_f125 <| sf1 hL (an := an_f125 lp G) (fun _ _ => obs (by kernel_rfl)) fun call a0 H n k => by kernel_rfl
noncomputable def an_f126 (lp : LpT) (G : Roms) (call : CallT) (k : KV) : An := (.s .n (.j (fun R=>s_f126_j1 lp G call k (rg R q0)) .n .n))
theorem si_f126 {lp : LpT} (hL : LpOk lp) (G : Roms) : Ok1 G 126 (ar1 (s_f126 lp G)) :=
  .mk at_f126 <| sf1 hL (an := an_f126 lp G) (fun _ _ => obs (by kernel_rfl)) fun call a0 H n k => by kernel_rfl
noncomputable def an_f127 (lp : LpT) (G : Roms) (call : CallT) (k : KV) : An := (.s .n (.j (fun R=>s_f127_j2 lp G call k (rg R q0) (rg R q3)) (.s .n (.b (.s .n (.c .n (.s .n (.c (.s (.b (.l _ (s_f127_l75b lp G call k) (fun R H n=>(rg R q0, rg R q3, H, n)) fun ih75=>.n)) .n) .n)))))) .n))
theorem si_f127 {lp : LpT} (hL : LpOk lp) (G : Roms) : Ok1 G 127 (ar2 (s_f127 lp G)) :=
  .mk at_f127 <| sf2 hL (an := an_f127 lp G) (fun _ _ => obs (by kernel_rfl)) fun call a0 a1 H n k => by kernel_rfl
noncomputable def an_f128 (lp : LpT) (G : Roms) (call : CallT) (k : KV) : An := .n
theorem si_f128 {lp : LpT} (hL : LpOk lp) (G : Roms) : Ok1 G 128 (ar1 (s_f128 lp G)) :=
  .mk at_f128 <| sf1 hL (an := an_f128 lp G) (fun _ _ => obs (by kernel_rfl)) fun call a0 H n k => by kernel_rfl
noncomputable def an_f130 (lp : LpT) (G : Roms) (call : CallT) (k : KV) : An := (.s .n (.b (.l _ (s_f130_l1b lp G call k) (fun R H n=>(rg R q0, rg R q4, rg R q5, H, n)) fun ih1=>(.s .n (.s .n (.s (.b (.s .n (.j (fun R=>s_f130_j12 lp G call k ih1 (rg R q0) (rg R q4) (rg R q5)) .n .n))) .n))))))
theorem si_f130 {lp : LpT} (hL : LpOk lp) (G : Roms) : Ok1 G 130 (ar2 (s_f130 lp G)) :=
  .mk at_f130 <| sf2 hL (an := an_f130 lp G) (fun _ _ => obs (by kernel_rfl)) fun call a0 a1 H n k => by kernel_rfl
noncomputable def an_f131 (lp : LpT) (G : Roms) (call : CallT) (k : KV) : An := .n
theorem si_f131 {lp : LpT} (hL : LpOk lp) (G : Roms) : Ok1 G 131 (ar2 (s_f131 lp G)) :=
  .mk at_f131 <| sf2 hL (an := an_f131 lp G) (fun _ _ => obs (by kernel_rfl)) fun call a0 a1 H n k => by kernel_rfl
noncomputable def an_f132 (lp : LpT) (G : Roms) (call : CallT) (k : KV) : An := .n
theorem si_f132 {lp : LpT} (hL : LpOk lp) (G : Roms) : Ok1 G 132 (ar2 (s_f132 lp G)) :=
  .mk at_f132 <| sf2 hL (an := an_f132 lp G) (fun _ _ => obs (by kernel_rfl)) fun call a0 a1 H n k => by kernel_rfl
noncomputable def an_f133 (lp : LpT) (G : Roms) (call : CallT) (k : KV) : An := .n
theorem si_f133 {lp : LpT} (hL : LpOk lp) (G : Roms) : Ok1 G 133 (ar1 (s_f133 lp G)) :=
  .mk at_f133 <| sf1 hL (an := an_f133 lp G) (fun _ _ => obs (by kernel_rfl)) fun call a0 H n k => by kernel_rfl
noncomputable def an_f134 (lp : LpT) (G : Roms) (call : CallT) (k : KV) : An := (.s .n (.s .n (.j (fun R=>s_f134_j1 lp G call k (rg R q0) (rg R q5)) (.b (.l _ (s_f134_l13b lp G call k) (fun R H n=>(rg R q0, rg R q1, rg R q5, H, n)) fun ih13=>.n)) .n)))
theorem si_f134 {lp : LpT} (hL : LpOk lp) (G : Roms) : Ok1 G 134 (ar2 (s_f134 lp G)) :=
  .mk at_f134 <| sf2 hL (an := an_f134 lp G) (fun _ _ => obs (by kernel_rfl)) fun call a0 a1 H n k => by kernel_rfl
noncomputable def an_f135 (lp : LpT) (G : Roms) (call : CallT) (k : KV) : An := .n
theorem si_f135 {lp : LpT} (hL : LpOk lp) (G : Roms) : Ok1 G 135 (ar1 (s_f135 lp G)) :=
  .mk at_f135 <| sf1 hL (an := an_f135 lp G) (fun _ _ => obs (by kernel_rfl)) fun call a0 H n k => by kernel_rfl
noncomputable def an_f136 (lp : LpT) (G : Roms) (call : CallT) (k : KV) : An := .n
theorem si_f136 {lp : LpT} (hL : LpOk lp) (G : Roms) : Ok1 G 136 (ar1 (s_f136 lp G)) :=
  .mk at_f136 <| sf1 hL (an := an_f136 lp G) (fun _ _ => obs (by kernel_rfl)) fun call a0 H n k => by kernel_rfl
noncomputable def an_f137 (lp : LpT) (G : Roms) (call : CallT) (k : KV) : An := (.s .n (.s (.s .n (.b (.j (fun R=>s_f137_j1 lp G call k (rg R q4)) .n .n))) .n))
theorem si_f137 {lp : LpT} (hL : LpOk lp) (G : Roms) : Ok1 G 137 (ar1 (s_f137 lp G)) :=
  .mk at_f137 <| sf1 hL (an := an_f137 lp G) (fun _ _ => obs (by kernel_rfl)) fun call a0 H n k => by kernel_rfl
noncomputable def an_f138 (lp : LpT) (G : Roms) (call : CallT) (k : KV) : An := .n
theorem si_f138 {lp : LpT} (hL : LpOk lp) (G : Roms) : Ok1 G 138 (ar1 (s_f138 lp G)) :=
  .mk at_f138 <| sf1 hL (an := an_f138 lp G) (fun _ _ => obs (by kernel_rfl)) fun call a0 H n k => by kernel_rfl
noncomputable def an_f139 (lp : LpT) (G : Roms) (call : CallT) (k : KV) : An := (.s .n (.s .n (.j (fun R=>s_f139_j1 lp G call k (rg R q4)) (.s .n (.b (.l _ (s_f139_l4b lp G call k) (fun R H n=>(rg R q4, rg R q8, rg R q9, rg R q10, H, n)) fun ih4=>.n))) .n)))
theorem si_f139 {lp : LpT} (hL : LpOk lp) (G : Roms) : Ok1 G 139 (ar1 (s_f139 lp G)) :=
  .mk at_f139 <| sf1 hL (an := an_f139 lp G) (fun _ _ => obs (by kernel_rfl)) fun call a0 H n k => by kernel_rfl
noncomputable def an_f140 (lp : LpT) (G : Roms) (call : CallT) (k : KV) : An := (.s .n (.s .n (.j (fun R=>s_f140_j9 lp G call k (rg R q2) (rg R q3)) .n .n)))
theorem si_f140 {lp : LpT} (hL : LpOk lp) (G : Roms) : Ok1 G 140 (ar1 (s_f140 lp G)) :=
  .mk at_f140 <| sf1 hL (an := an_f140 lp G) (fun _ _ => obs (by kernel_rfl)) fun call a0 H n k => by kernel_rfl
noncomputable def an_f141 (lp : LpT) (G : Roms) (call : CallT) (k : KV) : An := .n
theorem si_f141 {lp : LpT} (hL : LpOk lp) (G : Roms) : Ok1 G 141 (ar1 (s_f141 lp G)) :=
  .mk at_f141 <| sf1 hL (an := an_f141 lp G) (fun _ _ => obs (by kernel_rfl)) fun call a0 H n k => by kernel_rfl
noncomputable def an_f142 (lp : LpT) (G : Roms) (call : CallT) (k : KV) : An := (.s .n (.s .n (.s .n (.s .n (.j (fun R=>s_f142_j5 lp G call k (rg R q3) (rg R q22)) (.b (.l _ (s_f142_l6b lp G call k) (fun R H n=>(rg R q0, rg R q3, rg R q22, H, n)) fun ih6=>.n)) .n)))))
theorem si_f142 {lp : LpT} (hL : LpOk lp) (G : Roms) : Ok1 G 142 (ar1 (s_f142 lp G)) :=
  .mk at_f142 <| sf1 hL (an := an_f142 lp G) (fun _ _ => obs (by kernel_rfl)) fun call a0 H n k => by kernel_rfl
noncomputable def an_f143 (lp : LpT) (G : Roms) (call : CallT) (k : KV) : An := .n
theorem si_f143 {lp : LpT} (hL : LpOk lp) (G : Roms) : Ok1 G 143 (ar2 (s_f143 lp G)) :=
  .mk at_f143 <| sf2 hL (an := an_f143 lp G) (fun _ _ => obs (by kernel_rfl)) fun call a0 a1 H n k => by kernel_rfl
noncomputable def an_f144 (lp : LpT) (G : Roms) (call : CallT) (k : KV) : An := .n
theorem si_f144 {lp : LpT} (hL : LpOk lp) (G : Roms) : Ok1 G 144 (ar2 (s_f144 lp G)) :=
  .mk at_f144 <| sf2 hL (an := an_f144 lp G) (fun _ _ => obs (by kernel_rfl)) fun call a0 a1 H n k => by kernel_rfl
noncomputable def an_f145 (lp : LpT) (G : Roms) (call : CallT) (k : KV) : An := .n
theorem si_f145 {lp : LpT} (hL : LpOk lp) (G : Roms) : Ok1 G 145 (ar2 (s_f145 lp G)) :=
  .mk at_f145 <| sf2 hL (an := an_f145 lp G) (fun _ _ => obs (by kernel_rfl)) fun call a0 a1 H n k => by kernel_rfl
noncomputable def an_f146 (lp : LpT) (G : Roms) (call : CallT) (k : KV) : An := .n
theorem si_f146 {lp : LpT} (hL : LpOk lp) (G : Roms) : Ok1 G 146 (ar2 (s_f146 lp G)) :=
  .mk at_f146 <| sf2 hL (an := an_f146 lp G) (fun _ _ => obs (by kernel_rfl)) fun call a0 a1 H n k => by kernel_rfl
noncomputable def an_f147 (lp : LpT) (G : Roms) (call : CallT) (k : KV) : An := (.s .n (.j (fun R=>s_f147_j1 lp G call k) (.s .n (.b (.l _ (s_f147_l3b lp G call k) (fun R H n=>(rg R q0, rg R q1, rg R q7, rg R q8, H, n)) fun ih3=>.n))) .n))
theorem si_f147 {lp : LpT} (hL : LpOk lp) (G : Roms) : Ok1 G 147 (ar2 (s_f147 lp G)) :=
  .mk at_f147 <| sf2 hL (an := an_f147 lp G) (fun _ _ => obs (by kernel_rfl)) fun call a0 a1 H n k => by kernel_rfl
noncomputable def an_f148 (lp : LpT) (G : Roms) (call : CallT) (k : KV) : An := .n
theorem si_f148 {lp : LpT} (hL : LpOk lp) (G : Roms) : Ok1 G 148 (ar1 (s_f148 lp G)) :=
  .mk at_f148 <| sf1 hL (an := an_f148 lp G) (fun _ _ => obs (by kernel_rfl)) fun call a0 H n k => by kernel_rfl
noncomputable def an_f149 (lp : LpT) (G : Roms) (call : CallT) (k : KV) : An := .n
theorem si_f149 {lp : LpT} (hL : LpOk lp) (G : Roms) : Ok1 G 149 (ar1 (s_f149 lp G)) :=
  .mk at_f149 <| sf1 hL (an := an_f149 lp G) (fun _ _ => obs (by kernel_rfl)) fun call a0 H n k => by kernel_rfl
noncomputable def an_f150 (lp : LpT) (G : Roms) (call : CallT) (k : KV) : An := (.s .n (.j (fun R=>s_f150_j3 lp G call k (rg R q4)) (.s .n (.b (.l _ (s_f150_l9b lp G call k) (fun R H n=>(rg R q1, rg R q4, rg R q9, rg R q10, rg R q11, H, n)) fun ih9=>.n))) .n))
theorem si_f150 {lp : LpT} (hL : LpOk lp) (G : Roms) : Ok1 G 150 (ar2 (s_f150 lp G)) :=
  .mk at_f150 <| sf2 hL (an := an_f150 lp G) (fun _ _ => obs (by kernel_rfl)) fun call a0 a1 H n k => by kernel_rfl
noncomputable def an_f151 (lp : LpT) (G : Roms) (call : CallT) (k : KV) : An := (.s .n (.j (fun R=>s_f151_j2 lp G call k (rg R q4)) (.s .n (.b (.l _ (s_f151_l9b lp G call k) (fun R H n=>(rg R q1, rg R q4, rg R q11, rg R q12, rg R q13, H, n)) fun ih9=>.n))) .n))
theorem si_f151 {lp : LpT} (hL : LpOk lp) (G : Roms) : Ok1 G 151 (ar2 (s_f151 lp G)) :=
  .mk at_f151 <| sf2 hL (an := an_f151 lp G) (fun _ _ => obs (by kernel_rfl)) fun call a0 a1 H n k => by kernel_rfl
noncomputable def an_f152 (lp : LpT) (G : Roms) (call : CallT) (k : KV) : An := (.s .n (.j (fun R=>s_f152_j2 lp G call k (rg R q0)) .n .n))
theorem si_f152 {lp : LpT} (hL : LpOk lp) (G : Roms) : Ok1 G 152 (ar4 (s_f152 lp G)) :=
  .mk at_f152 <| sf4 hL (an := an_f152 lp G) (fun _ _ => obs (by kernel_rfl)) fun call a0 a1 a2 a3 H n k => by kernel_rfl
noncomputable def an_f153 (lp : LpT) (G : Roms) (call : CallT) (k : KV) : An := (.s .n (.s .n (.s .n (.s .n (.j (fun R=>s_f153_j34 lp G call k (rg R q0) (rg R q3) (rg R q4)) (.s .n (.b (.l _ (s_f153_l130b lp G call k) (fun R H n=>(rg R q0, rg R q3, rg R q4, rg R q39, rg R q40, rg R q41, H, n)) fun ih130=>.n))) (.s .n (.s .n (.j (fun R=>s_f153_j48 lp G call k (rg R q3) (rg R q4)) (.s .n (.b (.s .n (.c .n (.s .n (.c .n (.j (fun R=>s_f153_j91 lp G call k (rg R q0) (rg R q3) (rg R q4) (rg R q7) (rg R q66) (rg R q112)) .n .n))))))) .n))))))))
theorem si_f153 {lp : LpT} (hL : LpOk lp) (G : Roms) : Ok1 G 153 (ar2 (s_f153 lp G)) :=
  .mk at_f153 <| sf2 hL (an := an_f153 lp G) (fun _ _ => obs (by kernel_rfl)) fun call a0 a1 H n k => by kernel_rfl
noncomputable def an_f154 (lp : LpT) (G : Roms) (call : CallT) (k : KV) : An := (.s .n (.b (.l _ (s_f154_l2b lp G call k) (fun R H n=>(rg R q0, rg R q1, rg R q2, rg R q3, rg R q8, H, n)) fun ih2=>(.s .n (.j (fun R=>s_f154_j4 lp G call k ih2 (rg R q0) (rg R q1) (rg R q2) (rg R q3) (rg R q8)) (.b (.s .n (.b (.l _ (s_f154_l6b lp G call k ih2) (fun R H n=>(rg R q0, rg R q1, rg R q2, rg R q3, rg R q8, rg R q9, H, n)) fun ih6=>.n)))) .n)))))
theorem si_f154 {lp : LpT} (hL : LpOk lp) (G : Roms) : Ok1 G 154 (ar4 (s_f154 lp G)) :=
  .mk at_f154 <| sf4 hL (an := an_f154 lp G) (fun _ _ => obs (by kernel_rfl)) fun call a0 a1 a2 a3 H n k => by kernel_rfl
noncomputable def an_f155 (lp : LpT) (G : Roms) (call : CallT) (k : KV) : An := (.j (fun R=>s_f155_j1 lp G call k (rg R q0) (rg R q1) (rg R q2) (rg R q3) (rg R q4)) (.s .n (.c (.s .n (.s .n (.j (fun R=>s_f155_j81 lp G call k (rg R q0) (rg R q1) (rg R q10)) (.b (.l _ (s_f155_l96b lp G call k) (fun R H n=>(rg R q0, rg R q1, rg R q4, rg R q10, rg R q11, H, n)) fun ih96=>.n)) (.s (.s .n (.b (.l _ (s_f155_l82b lp G call k) (fun R H n=>(rg R q0, rg R q10, rg R q13, H, n)) fun ih82=>.n))) .n)))) .n)) (.j (fun R=>s_f155_j2 lp G call k (rg R q0) (rg R q1) (rg R q2) (rg R q3) (rg R q4)) (.s .n (.c (.s .n (.s .n (.j (fun R=>s_f155_j51 lp G call k (rg R q0) (rg R q2) (rg R q14)) (.b (.l _ (s_f155_l65b lp G call k) (fun R H n=>(rg R q0, rg R q2, rg R q4, rg R q14, rg R q15, H, n)) fun ih65=>.n)) (.s (.s .n (.b (.l _ (s_f155_l52b lp G call k) (fun R H n=>(rg R q0, rg R q14, rg R q17, H, n)) fun ih52=>.n))) .n)))) .n)) (.s .n (.s .n (.s .n (.j (fun R=>s_f155_j8 lp G call k (rg R q0) (rg R q1) (rg R q2) (rg R q3) (rg R q4) (rg R q18) (rg R q19) (rg R q20) (rg R q21)) .n (.s .n (.j (fun R=>s_f155_j10 lp G call k (rg R q0) (rg R q1) (rg R q2) (rg R q3) (rg R q4) (rg R q18) (rg R q19) (rg R q20)) (.b (.l _ (s_f155_l32b lp G call k) (fun R H n=>(rg R q0, rg R q1, rg R q2, rg R q3, rg R q4, rg R q18, rg R q19, rg R q20, rg R q21, rg R q22, H, n)) fun ih32=>.n)) (.s .n (.j (fun R=>s_f155_j12 lp G call k (rg R q0) (rg R q1) (rg R q3) (rg R q4) (rg R q18) (rg R q20) (rg R q24)) .n (.j (fun R=>s_f155_j13 lp G call k (rg R q0) (rg R q3) (rg R q4) (rg R q18) (rg R q24)) .n .n)))))))))))
theorem si_f155 {lp : LpT} (hL : LpOk lp) (G : Roms) : Ok1 G 155 (ar5 (s_f155 lp G)) :=
  .mk at_f155 <| sf5 hL (an := an_f155 lp G) (fun _ _ => obs (by kernel_rfl)) fun call a0 a1 a2 a3 a4 H n k => by kernel_rfl
noncomputable def an_f157 (lp : LpT) (G : Roms) (call : CallT) (k : KV) : An := .n
theorem si_f157 {lp : LpT} (hL : LpOk lp) (G : Roms) : Ok1 G 157 (ar2 (s_f157 lp G)) :=
  .mk at_f157 <| sf2 hL (an := an_f157 lp G) (fun _ _ => obs (by kernel_rfl)) fun call a0 a1 H n k => by kernel_rfl
noncomputable def an_f158 (lp : LpT) (G : Roms) (call : CallT) (k : KV) : An := .n
theorem si_f158 {lp : LpT} (hL : LpOk lp) (G : Roms) : Ok1 G 158 (ar4 (s_f158 lp G)) :=
  .mk at_f158 <| sf4 hL (an := an_f158 lp G) (fun _ _ => obs (by kernel_rfl)) fun call a0 a1 a2 a3 H n k => by kernel_rfl
noncomputable def an_f159 (lp : LpT) (G : Roms) (call : CallT) (k : KV) : An := (.s .n (.s .n (.j (fun R=>s_f159_j6 lp G call k (rg R q7)) .n .n)))
theorem si_f159 {lp : LpT} (hL : LpOk lp) (G : Roms) : Ok1 G 159 (ar3 (s_f159 lp G)) :=
  .mk at_f159 <| sf3 hL (an := an_f159 lp G) (fun _ _ => obs (by kernel_rfl)) fun call a0 a1 a2 H n k => by kernel_rfl
noncomputable def an_f160 (lp : LpT) (G : Roms) (call : CallT) (k : KV) : An := .n
theorem si_f160 {lp : LpT} (hL : LpOk lp) (G : Roms) : Ok1 G 160 (ar2 (s_f160 lp G)) :=
  .mk at_f160 <| sf2 hL (an := an_f160 lp G) (fun _ _ => obs (by kernel_rfl)) fun call a0 a1 H n k => by kernel_rfl
noncomputable def an_f161 (lp : LpT) (G : Roms) (call : CallT) (k : KV) : An := .n
theorem si_f161 {lp : LpT} (hL : LpOk lp) (G : Roms) : Ok1 G 161 (ar0 (s_f161 lp G)) :=
  .mk at_f161 <| sf0 hL (an := an_f161 lp G) (fun _ _ => obs (by kernel_rfl)) fun call  H n k => by kernel_rfl
noncomputable def an_f162 (lp : LpT) (G : Roms) (call : CallT) (k : KV) : An := .n
theorem si_f162 {lp : LpT} (hL : LpOk lp) (G : Roms) : Ok1 G 162 (ar1 (s_f162 lp G)) :=
  .mk at_f162 <| sf1 hL (an := an_f162 lp G) (fun _ _ => obs (by kernel_rfl)) fun call a0 H n k => by kernel_rfl
noncomputable def an_f163 (lp : LpT) (G : Roms) (call : CallT) (k : KV) : An := .n
theorem si_f163 {lp : LpT} (hL : LpOk lp) (G : Roms) : Ok1 G 163 (ar1 (s_f163 lp G)) :=
  .mk at_f163 <| sf1 hL (an := an_f163 lp G) (fun _ _ => obs (by kernel_rfl)) fun call a0 H n k => by kernel_rfl
noncomputable def an_f164 (lp : LpT) (G : Roms) (call : CallT) (k : KV) : An := .n
theorem si_f164 {lp : LpT} (hL : LpOk lp) (G : Roms) : Ok1 G 164 (ar1 (s_f164 lp G)) :=
  .mk at_f164 <| sf1 hL (an := an_f164 lp G) (fun _ _ => obs (by kernel_rfl)) fun call a0 H n k => by kernel_rfl
noncomputable def an_f165 (lp : LpT) (G : Roms) (call : CallT) (k : KV) : An := .n
theorem si_f165 {lp : LpT} (hL : LpOk lp) (G : Roms) : Ok1 G 165 (ar3 (s_f165 lp G)) :=
  .mk at_f165 <| sf3 hL (an := an_f165 lp G) (fun _ _ => obs (by kernel_rfl)) fun call a0 a1 a2 H n k => by kernel_rfl
noncomputable def an_f167 (lp : LpT) (G : Roms) (call : CallT) (k : KV) : An := (.s .n (.j (fun R=>s_f167_j4 lp G call k (rg R q6)) .n .n))
theorem si_f167 {lp : LpT} (hL : LpOk lp) (G : Roms) : Ok1 G 167 (ar3 (s_f167 lp G)) :=
  .mk at_f167 <| sf3 hL (an := an_f167 lp G) (fun _ _ => obs (by kernel_rfl)) fun call a0 a1 a2 H n k => by kernel_rfl
noncomputable def an_f168 (lp : LpT) (G : Roms) (call : CallT) (k : KV) : An := .n
theorem si_f168 {lp : LpT} (hL : LpOk lp) (G : Roms) : Ok1 G 168 (ar1 (s_f168 lp G)) :=
  .mk at_f168 <| sf1 hL (an := an_f168 lp G) (fun _ _ => obs (by kernel_rfl)) fun call a0 H n k => by kernel_rfl
noncomputable def an_f169 (lp : LpT) (G : Roms) (call : CallT) (k : KV) : An := .n
theorem si_f169 {lp : LpT} (hL : LpOk lp) (G : Roms) : Ok1 G 169 (ar3 (s_f169 lp G)) :=
  .mk at_f169 <| sf3 hL (an := an_f169 lp G) (fun _ _ => obs (by kernel_rfl)) fun call a0 a1 a2 H n k => by kernel_rfl
noncomputable def an_f170 (lp : LpT) (G : Roms) (call : CallT) (k : KV) : An := .n
theorem si_f170 {lp : LpT} (hL : LpOk lp) (G : Roms) : Ok1 G 170 (ar0 (s_f170 lp G)) :=
  .mk at_f170 <| sf0 hL (an := an_f170 lp G) (fun _ _ => obs (by kernel_rfl)) fun call  H n k => by kernel_rfl
noncomputable def an_f171 (lp : LpT) (G : Roms) (call : CallT) (k : KV) : An := .n
theorem si_f171 {lp : LpT} (hL : LpOk lp) (G : Roms) : Ok1 G 171 (ar1 (s_f171 lp G)) :=
  .mk at_f171 <| sf1 hL (an := an_f171 lp G) (fun _ _ => obs (by kernel_rfl)) fun call a0 H n k => by kernel_rfl
noncomputable def an_f172 (lp : LpT) (G : Roms) (call : CallT) (k : KV) : An := (.s .n (.j (fun R=>s_f172_j1 lp G call k) (.s .n (.b (.l _ (s_f172_l4b lp G call k) (fun R H n=>(rg R q0, rg R q1, rg R q2, rg R q7, H, n)) fun ih4=>.n))) .n))
theorem si_f172 {lp : LpT} (hL : LpOk lp) (G : Roms) : Ok1 G 172 (ar3 (s_f172 lp G)) :=
  .mk at_f172 <| sf3 hL (an := an_f172 lp G) (fun _ _ => obs (by kernel_rfl)) fun call a0 a1 a2 H n k => by kernel_rfl
noncomputable def an_f173 (lp : LpT) (G : Roms) (call : CallT) (k : KV) : An := .n
theorem si_f173 {lp : LpT} (hL : LpOk lp) (G : Roms) : Ok1 G 173 (ar1 (s_f173 lp G)) :=
  .mk at_f173 <| sf1 hL (an := an_f173 lp G) (fun _ _ => obs (by kernel_rfl)) fun call a0 H n k => by kernel_rfl
noncomputable def an_f174 (lp : LpT) (G : Roms) (call : CallT) (k : KV) : An := (.s .n (.s (.s .n (.b (.s .n (.c .n (.s .n (.c .n (.j (fun R=>s_f174_j47 lp G call k (rg R q0) (rg R q1) (rg R q5) (rg R q14) (rg R q66)) .n (.c (.s .n (.s .n (.j (fun R=>s_f174_j56 lp G call k (rg R q0) (rg R q1) (rg R q7) (rg R q8) (rg R q9)) .n .n))) (.s .n (.c .n (.s .n (.c .n (.j (fun R=>s_f174_j128 lp G call k (rg R q0) (rg R q1) (rg R q5) (rg R q154)) .n .n))))))))))))) .n))
theorem si_f174 {lp : LpT} (hL : LpOk lp) (G : Roms) : Ok1 G 174 (ar3 (s_f174 lp G)) :=
  .mk at_f174 <| sf3 hL (an := an_f174 lp G) (fun _ _ => obs (by kernel_rfl)) fun call a0 a1 a2 H n k => by kernel_rfl
noncomputable def an_f175 (lp : LpT) (G : Roms) (call : CallT) (k : KV) : An := .n
theorem si_f175 {lp : LpT} (hL : LpOk lp) (G : Roms) : Ok1 G 175 (ar4 (s_f175 lp G)) :=
  .mk at_f175 <| sf4 hL (an := an_f175 lp G) (fun _ _ => obs (by kernel_rfl)) fun call a0 a1 a2 a3 H n k => by kernel_rfl
noncomputable def an_f176 (lp : LpT) (G : Roms) (call : CallT) (k : KV) : An := (.s .n (.s .n (.s .n (.j (fun R=>s_f176_j7 lp G call k (rg R q5)) (.s .n (.b (.l _ (s_f176_l9b lp G call k) (fun R H n=>(rg R q0, rg R q5, rg R q21, rg R q22, rg R q23, H, n)) fun ih9=>.n))) .n))))
theorem si_f176 {lp : LpT} (hL : LpOk lp) (G : Roms) : Ok1 G 176 (ar2 (s_f176 lp G)) :=
  .mk at_f176 <| sf2 hL (an := an_f176 lp G) (fun _ _ => obs (by kernel_rfl)) fun call a0 a1 H n k => by kernel_rfl
noncomputable def an_f177 (lp : LpT) (G : Roms) (call : CallT) (k : KV) : An := (.s .n (.s .n (.s .n (.s .n (.s .n (.s .n (.s .n (.j (fun R=>s_f177_j20 lp G call k (rg R q0) (rg R q1) (rg R q5) (rg R q6) (rg R q7) (rg R q8) (rg R q9)) .n .n))))))))
theorem si_f177 {lp : LpT} (hL : LpOk lp) (G : Roms) : Ok1 G 177 (ar3 (s_f177 lp G)) :=
  .mk at_f177 <| sf3 hL (an := an_f177 lp G) (fun _ _ => obs (by kernel_rfl)) fun call a0 a1 a2 H n k => by kernel_rfl
noncomputable def an_f178 (lp : LpT) (G : Roms) (call : CallT) (k : KV) : An := (.s .n (.s .n (.j (fun R=>s_f178_j6 lp G call k (rg R q0) (rg R q4) (rg R q5) (rg R q6)) .n .n)))
theorem si_f178 {lp : LpT} (hL : LpOk lp) (G : Roms) : Ok1 G 178 (ar3 (s_f178 lp G)) :=
  .mk at_f178 <| sf3 hL (an := an_f178 lp G) (fun _ _ => obs (by kernel_rfl)) fun call a0 a1 a2 H n k => by kernel_rfl
noncomputable def an_f179 (lp : LpT) (G : Roms) (call : CallT) (k : KV) : An := (.s .n (.s .n (.s (.s .n (.b (.s .n (.c .n (.s .n (.c .n (.s .n (.c .n (.s .n (.c .n (.s .n (.c .n (.j (fun R=>s_f179_j43 lp G call k (rg R q0) (rg R q3) (rg R q4) (rg R q50)) .n .n))))))))))))) .n)))
theorem si_f179 {lp : LpT} (hL : LpOk lp) (G : Roms) : Ok1 G 179 (ar2 (s_f179 lp G)) :=
  .mk at_f179 <| sf2 hL (an := an_f179 lp G) (fun _ _ => obs (by kernel_rfl)) fun call a0 a1 H n k => by kernel_rfl
noncomputable def an_f181 (lp : LpT) (G : Roms) (call : CallT) (k : KV) : An := .n
theorem si_f181 {lp : LpT} (hL : LpOk lp) (G : Roms) : Ok1 G 181 (ar2 (s_f181 lp G)) :=
  .mk at_f181 <| sf2 hL (an := an_f181 lp G) (fun _ _ => obs (by kernel_rfl)) fun call a0 a1 H n k => by kernel_rfl
noncomputable def an_f182 (lp : LpT) (G : Roms) (call : CallT) (k : KV) : An := .n
theorem si_f182 {lp : LpT} (hL : LpOk lp) (G : Roms) : Ok1 G 182 (ar2 (s_f182 lp G)) :=
  .mk at_f182 <| sf2 hL (an := an_f182 lp G) (fun _ _ => obs (by kernel_rfl)) fun call a0 a1 H n k => by kernel_rfl
noncomputable def an_f183 (lp : LpT) (G : Roms) (call : CallT) (k : KV) : An := (.s .n (.j (fun R=>s_f183_j2 lp G call k (rg R q1)) .n .n))
theorem si_f183 {lp : LpT} (hL : LpOk lp) (G : Roms) : Ok1 G 183 (ar1 (s_f183 lp G)) :=
  .mk at_f183 <| sf1 hL (an := an_f183 lp G) (fun _ _ => obs (by kernel_rfl)) fun call a0 H n k => by kernel_rfl
noncomputable def an_f184 (lp : LpT) (G : Roms) (call : CallT) (k : KV) : An := (.s .n (.s .n (.j (fun R=>s_f184_j11 lp G call k (rg R q0) (rg R q2) (rg R q3)) .n .n)))
theorem si_f184 {lp : LpT} (hL : LpOk lp) (G : Roms) : Ok1 G 184 (ar1 (s_f184 lp G)) :=
  .mk at_f184 <| sf1 hL (an := an_f184 lp G) (fun _ _ => obs (by kernel_rfl)) fun call a0 H n k => by kernel_rfl
noncomputable def an_f185 (lp : LpT) (G : Roms) (call : CallT) (k : KV) : An := (.s .n (.s .n (.j (fun R=>s_f185_j1 lp G call k (rg R q0) (rg R q1) (rg R q2) (rg R q6) (rg R q7)) (.b (.l _ (s_f185_l18b lp G call k) (fun R H n=>(rg R q0, rg R q1, rg R q2, rg R q6, rg R q7, rg R q8, H, n)) fun ih18=>.n)) (.s .n (.b (.l _ (s_f185_l3b lp G call k) (fun R H n=>(rg R q0, rg R q1, rg R q2, rg R q6, H, n)) fun ih3=>(.s .n (.b (.s .n (.j (fun R=>s_f185_j6 lp G call k ih3 (rg R q0) (rg R q1) (rg R q2) (rg R q6) (rg R q7)) (.b (.l _ (s_f185_l12b lp G call k ih3) (fun R H n=>(rg R q0, rg R q1, rg R q2, rg R q6, rg R q7, rg R q8, H, n)) fun ih12=>.n)) (.j (fun R=>s_f185_j7 lp G call k ih3 (rg R q0) (rg R q1) (rg R q2) (rg R q6)) .n .n)))))))))))
theorem si_f185 {lp : LpT} (hL : LpOk lp) (G : Roms) : Ok1 G 185 (ar3 (s_f185 lp G)) :=
  .mk at_f185 <| sf3 hL (an := an_f185 lp G) (fun _ _ => obs (by kernel_rfl)) fun call a0 a1 a2 H n k => by kernel_rfl
noncomputable def an_f186 (lp : LpT) (G : Roms) (call : CallT) (k : KV) : An := (.s .n (.s .n (.j (fun R=>s_f186_j1 lp G call k (rg R q0) (rg R q1) (rg R q2) (rg R q6) (rg R q7)) (.b (.l _ (s_f186_l18b lp G call k) (fun R H n=>(rg R q0, rg R q1, rg R q2, rg R q6, rg R q7, rg R q8, H, n)) fun ih18=>.n)) (.s .n (.b (.l _ (s_f186_l3b lp G call k) (fun R H n=>(rg R q0, rg R q1, rg R q2, rg R q6, H, n)) fun ih3=>(.s .n (.b (.s .n (.j (fun R=>s_f186_j6 lp G call k ih3 (rg R q0) (rg R q1) (rg R q2) (rg R q6) (rg R q7)) (.b (.l _ (s_f186_l12b lp G call k ih3) (fun R H n=>(rg R q0, rg R q1, rg R q2, rg R q6, rg R q7, rg R q8, H, n)) fun ih12=>.n)) (.j (fun R=>s_f186_j7 lp G call k ih3 (rg R q0) (rg R q1) (rg R q2) (rg R q6)) .n .n)))))))))))
theorem si_f186 {lp : LpT} (hL : LpOk lp) (G : Roms) : Ok1 G 186 (ar3 (s_f186 lp G)) :=
  .mk at_f186 <| sf3 hL (an := an_f186 lp G) (fun _ _ => obs (by kernel_rfl)) fun call a0 a1 a2 H n k => by kernel_rfl
noncomputable def an_f187 (lp : LpT) (G : Roms) (call : CallT) (k : KV) : An := .n
theorem si_f187 {lp : LpT} (hL : LpOk lp) (G : Roms) : Ok1 G 187 (ar3 (s_f187 lp G)) :=
  .mk at_f187 <| sf3 hL (an := an_f187 lp G) (fun _ _ => obs (by kernel_rfl)) fun call a0 a1 a2 H n k => by kernel_rfl
noncomputable def an_f188 (lp : LpT) (G : Roms) (call : CallT) (k : KV) : An := .n
theorem si_f188 {lp : LpT} (hL : LpOk lp) (G : Roms) : Ok1 G 188 (ar1 (s_f188 lp G)) :=
  .mk at_f188 <| sf1 hL (an := an_f188 lp G) (fun _ _ => obs (by kernel_rfl)) fun call a0 H n k => by kernel_rfl
noncomputable def an_f189 (lp : LpT) (G : Roms) (call : CallT) (k : KV) : An := (.s .n (.s .n (.j (fun R=>s_f189_j7 lp G call k (rg R q3) (rg R q4)) (.s .n (.b (.s .n (.c .n (.j (fun R=>s_f189_j16 lp G call k (rg R q0) (rg R q3) (rg R q4) (rg R q12) (rg R q19)) .n (.c .n (.s .n (.c .n (.s .n (.c .n (.s .n (.c .n (.j (fun R=>s_f189_j56 lp G call k (rg R q0) (rg R q3) (rg R q4) (rg R q12) (rg R q65)) .n (.c .n (.s .n (.c .n (.s .n (.c (.j (fun R=>s_f189_j74 lp G call k (rg R q3) (rg R q4)) .n .n) (.s .n (.c (.j (fun R=>s_f189_j96 lp G call k (rg R q3) (rg R q4)) .n .n) .n)))))))))))))))))))) .n)))
theorem si_f189 {lp : LpT} (hL : LpOk lp) (G : Roms) : Ok1 G 189 (ar2 (s_f189 lp G)) :=
  .mk at_f189 <| sf2 hL (an := an_f189 lp G) (fun _ _ => obs (by kernel_rfl)) fun call a0 a1 H n k => by kernel_rfl
noncomputable def an_f190 (lp : LpT) (G : Roms) (call : CallT) (k : KV) : An := .n
theorem si_f190 {lp : LpT} (hL : LpOk lp) (G : Roms) : Ok1 G 190 (ar3 (s_f190 lp G)) :=
  .mk at_f190 <| sf3 hL (an := an_f190 lp G) (fun _ _ => obs (by kernel_rfl)) fun call a0 a1 a2 H n k => by kernel_rfl
noncomputable def an_f191 (lp : LpT) (G : Roms) (call : CallT) (k : KV) : An := (.s .n (.j (fun R=>s_f191_j2 lp G call k) (.s .n (.b (.l _ (s_f191_l4b lp G call k) (fun R H n=>(rg R q0, rg R q5, rg R q9, rg R q10, rg R q11, H, n)) fun ih4=>.n))) .n))
theorem si_f191 {lp : LpT} (hL : LpOk lp) (G : Roms) : Ok1 G 191 (ar3 (s_f191 lp G)) :=
  .mk at_f191 <| sf3 hL (an := an_f191 lp G) (fun _ _ => obs (by kernel_rfl)) fun call a0 a1 a2 H n k => by kernel_rfl
noncomputable def an_f192 (lp : LpT) (G : Roms) (call : CallT) (k : KV) : An := (.s .n (.s .n (.j (fun R=>s_f192_j3 lp G call k (rg R q0) (rg R q2) (rg R q4) (rg R q10)) (.b (.l _ (s_f192_l6b lp G call k) (fun R H n=>(rg R q0, rg R q2, rg R q4, rg R q10, rg R q11, H, n)) fun ih6=>.n)) .n)))
theorem si_f192 {lp : LpT} (hL : LpOk lp) (G : Roms) : Ok1 G 192 (ar5 (s_f192 lp G)) :=
  .mk at_f192 <| sf5 hL (an := an_f192 lp G) (fun _ _ => obs (by kernel_rfl)) fun call a0 a1 a2 a3 a4 H n k => by kernel_rfl
noncomputable def an_f193 (lp : LpT) (G : Roms) (call : CallT) (k : KV) : An := (.s .n (.j (fun R=>s_f193_j3 lp G call k (rg R q0) (rg R q4) (rg R q5)) (.s .n (.c (.s .n (.b (.l _ (s_f193_l37b lp G call k) (fun R H n=>(rg R q0, rg R q4, rg R q5, rg R q12, rg R q13, rg R q14, H, n)) fun ih37=>.n))) .n)) .n))
theorem si_f193 {lp : LpT} (hL : LpOk lp) (G : Roms) : Ok1 G 193 (ar3 (s_f193 lp G)) :=
  .mk at_f193 <| sf3 hL (an := an_f193 lp G) (fun _ _ => obs (by kernel_rfl)) fun call a0 a1 a2 H n k => by kernel_rfl
noncomputable def an_f194 (lp : LpT) (G : Roms) (call : CallT) (k : KV) : An := (.s .n (.s .n (.j (fun R=>s_f194_j11 lp G call k (rg R q0) (rg R q3)) (.s .n (.b (.l _ (s_f194_l111b lp G call k) (fun R H n=>(rg R q0, rg R q3, rg R q20, rg R q21, rg R q22, H, n)) fun ih111=>.n))) (.s .n (.b (.s .n (.c .n (.s .n (.c .n (.s .n (.c .n (.s .n (.c .n (.s .n (.c .n (.s .n (.c .n (.s .n (.c .n (.j (fun R=>s_f194_j43 lp G call k (rg R q0) (rg R q3) (rg R q31) (rg R q78)) .n .n))))))))))))))))))))
theorem si_f194 {lp : LpT} (hL : LpOk lp) (G : Roms) : Ok1 G 194 (ar2 (s_f194 lp G)) :=
  .mk at_f194 <| sf2 hL (an := an_f194 lp G) (fun _ _ => obs (by kernel_rfl)) fun call a0 a1 H n k => by kernel_rfl
noncomputable def an_f195 (lp : LpT) (G : Roms) (call : CallT) (k : KV) : An := .n
theorem si_f195 {lp : LpT} (hL : LpOk lp) (G : Roms) : Ok1 G 195 (ar2 (s_f195 lp G)) :=
  .mk at_f195 <| sf2 hL (an := an_f195 lp G) (fun _ _ => obs (by kernel_rfl)) fun call a0 a1 H n k => by kernel_rfl
noncomputable def an_f196 (lp : LpT) (G : Roms) (call : CallT) (k : KV) : An := (.s .n (.j (fun R=>s_f196_j1 lp G call k) (.s .n (.b (.l _ (s_f196_l3b lp G call k) (fun R H n=>(rg R q0, rg R q1, rg R q7, rg R q8, H, n)) fun ih3=>.n))) .n))
theorem si_f196 {lp : LpT} (hL : LpOk lp) (G : Roms) : Ok1 G 196 (ar2 (s_f196 lp G)) :=
  .mk at_f196 <| sf2 hL (an := an_f196 lp G) (fun _ _ => obs (by kernel_rfl)) fun call a0 a1 H n k => by kernel_rfl
noncomputable def an_f197 (lp : LpT) (G : Roms) (call : CallT) (k : KV) : An := .n
theorem si_f197 {lp : LpT} (hL : LpOk lp) (G : Roms) : Ok1 G 197 (ar3 (s_f197 lp G)) :=
  .mk at_f197 <| sf3 hL (an := an_f197 lp G) (fun _ _ => obs (by kernel_rfl)) fun call a0 a1 a2 H n k => by kernel_rfl
noncomputable def an_f198 (lp : LpT) (G : Roms) (call : CallT) (k : KV) : An := (.s .n (.s .n (.j (fun R=>s_f198_j4 lp G call k) (.s .n (.b (.l _ (s_f198_l6b lp G call k) (fun R H n=>(rg R q0, rg R q2, rg R q17, rg R q18, rg R q19, H, n)) fun ih6=>.n))) .n)))
theorem si_f198 {lp : LpT} (hL : LpOk lp) (G : Roms) : Ok1 G 198 (ar3 (s_f198 lp G)) :=
  .mk at_f198 <| sf3 hL (an := an_f198 lp G) (fun _ _ => obs (by kernel_rfl)) fun call a0 a1 a2 H n k => by kernel_rfl
noncomputable def an_f199 (lp : LpT) (G : Roms) (call : CallT) (k : KV) : An := .n
theorem si_f199 {lp : LpT} (hL : LpOk lp) (G : Roms) : Ok1 G 199 (ar3 (s_f199 lp G)) :=
  .mk at_f199 <| sf3 hL (an := an_f199 lp G) (fun _ _ => obs (by kernel_rfl)) fun call a0 a1 a2 H n k => by kernel_rfl
noncomputable def an_f200 (lp : LpT) (G : Roms) (call : CallT) (k : KV) : An := (.s .n (.s .n (.s .n (.s .n (.j (fun R=>s_f200_j21 lp G call k) (.s .n (.b (.l _ (s_f200_l25b lp G call k) (fun R H n=>(rg R q2, rg R q12, rg R q40, rg R q41, rg R q42, H, n)) fun ih25=>.n))) .n)))))
theorem si_f200 {lp : LpT} (hL : LpOk lp) (G : Roms) : Ok1 G 200 (ar3 (s_f200 lp G)) :=
  .mk at_f200 <| sf3 hL (an := an_f200 lp G) (fun _ _ => obs (by kernel_rfl)) fun call a0 a1 a2 H n k => by kernel_rfl
noncomputable def an_f201 (lp : LpT) (G : Roms) (call : CallT) (k : KV) : An := (.s .n (.s .n (.j (fun R=>s_f201_j2 lp G call k (rg R q5)) (.s .n (.b (.l _ (s_f201_l6b lp G call k) (fun R H n=>(rg R q0, rg R q5, rg R q9, rg R q10, rg R q11, H, n)) fun ih6=>.n))) .n)))
theorem si_f201 {lp : LpT} (hL : LpOk lp) (G : Roms) : Ok1 G 201 (ar2 (s_f201 lp G)) :=
  .mk at_f201 <| sf2 hL (an := an_f201 lp G) (fun _ _ => obs (by kernel_rfl)) fun call a0 a1 H n k => by kernel_rfl
noncomputable def an_f202 (lp : LpT) (G : Roms) (call : CallT) (k : KV) : An := .n
theorem si_f202 {lp : LpT} (hL : LpOk lp) (G : Roms) : Ok1 G 202 (ar1 (s_f202 lp G)) :=
  .mk at_f202 <| sf1 hL (an := an_f202 lp G) (fun _ _ => obs (by kernel_rfl)) fun call a0 H n k => by kernel_rfl
noncomputable def an_f203 (lp : LpT) (G : Roms) (call : CallT) (k : KV) : An := (.s .n (.s .n (.s .n (.s .n (.j (fun R=>s_f203_j11 lp G call k (rg R q0) (rg R q4) (rg R q7) (rg R q8)) (.s .n (.b (.l _ (s_f203_l19b lp G call k) (fun R H n=>(rg R q0, rg R q4, rg R q7, rg R q8, rg R q24, rg R q25, rg R q26, H, n)) fun ih19=>.n))) .n)))))
theorem si_f203 {lp : LpT} (hL : LpOk lp) (G : Roms) : Ok1 G 203 (ar2 (s_f203 lp G)) :=
  .mk at_f203 <| sf2 hL (an := an_f203 lp G) (fun _ _ => obs (by kernel_rfl)) fun call a0 a1 H n k => by kernel_rfl
noncomputable def an_f204 (lp : LpT) (G : Roms) (call : CallT) (k : KV) : An := .n
theorem si_f204 {lp : LpT} (hL : LpOk lp) (G : Roms) : Ok1 G 204 (ar3 (s_f204 lp G)) :=
  .mk at_f204 <| sf3 hL (an := an_f204 lp G) (fun _ _ => obs (by kernel_rfl)) fun call a0 a1 a2 H n k => by kernel_rfl
noncomputable def an_f210 (lp : LpT) (G : Roms) (call : CallT) (k : KV) : An := .n
theorem si_f210 {lp : LpT} (hL : LpOk lp) (G : Roms) : Ok1 G 210 (ar1 (s_f210 lp G)) :=
  .mk at_f210 <| sf1 hL (an := an_f210 lp G) (fun _ _ => obs (by kernel_rfl)) fun call a0 H n k => by kernel_rfl
noncomputable def an_f211 (lp : LpT) (G : Roms) (call : CallT) (k : KV) : An := .n
theorem si_f211 {lp : LpT} (hL : LpOk lp) (G : Roms) : Ok1 G 211 (ar1 (s_f211 lp G)) :=
  .mk at_f211 <| sf1 hL (an := an_f211 lp G) (fun _ _ => obs (by kernel_rfl)) fun call a0 H n k => by kernel_rfl
noncomputable def an_f212 (lp : LpT) (G : Roms) (call : CallT) (k : KV) : An := (.s .n (.s .n (.s .n (.s .n (.s .n (.s .n (.j (fun R=>s_f212_j22 lp G call k (rg R q2) (rg R q3) (rg R q37)) .n .n)))))))
theorem si_f212 {lp : LpT} (hL : LpOk lp) (G : Roms) : Ok1 G 212 (ar1 (s_f212 lp G)) :=
  .mk at_f212 <| sf1 hL (an := an_f212 lp G) (fun _ _ => obs (by kernel_rfl)) fun call a0 H n k => by kernel_rfl
noncomputable def an_f213 (lp : LpT) (G : Roms) (call : CallT) (k : KV) : An := (.s .n (.s .n (.s (.s .n (.c (.j (fun R=>s_f213_j15 lp G call k) .n .n) .n)) (.j (fun R=>s_f213_j24 lp G call k (rg R q0) (rg R q1)) .n .n))))
theorem si_f213 {lp : LpT} (hL : LpOk lp) (G : Roms) : Ok1 G 213 (ar2 (s_f213 lp G)) :=
  .mk at_f213 <| sf2 hL (an := an_f213 lp G) (fun _ _ => obs (by kernel_rfl)) fun call a0 a1 H n k => by kernel_rfl
noncomputable def an_f214 (lp : LpT) (G : Roms) (call : CallT) (k : KV) : An := (.s .n (.b (.l _ (s_f214_l2b lp G call k) (fun R H n=>(rg R q0, rg R q1, rg R q2, rg R q3, rg R q8, H, n)) fun ih2=>(.s .n (.j (fun R=>s_f214_j4 lp G call k ih2 (rg R q0) (rg R q1) (rg R q2) (rg R q3) (rg R q8)) (.b (.s .n (.b (.l _ (s_f214_l6b lp G call k ih2) (fun R H n=>(rg R q0, rg R q1, rg R q2, rg R q3, rg R q8, rg R q9, H, n)) fun ih6=>.n)))) .n)))))
theorem si_f214 {lp : LpT} (hL : LpOk lp) (G : Roms) : Ok1 G 214 (ar4 (s_f214 lp G)) :=
  .mk at_f214 <| sf4 hL (an := an_f214 lp G) (fun _ _ => obs (by kernel_rfl)) fun call a0 a1 a2 a3 H n k => by kernel_rfl
noncomputable def an_f215 (lp : LpT) (G : Roms) (call : CallT) (k : KV) : An := (.j (fun R=>s_f215_j1 lp G call k (rg R q0) (rg R q1) (rg R q2) (rg R q3) (rg R q4)) (.s .n (.c (.s .n (.s .n (.j (fun R=>s_f215_j81 lp G call k (rg R q0) (rg R q1) (rg R q10)) (.b (.l _ (s_f215_l96b lp G call k) (fun R H n=>(rg R q0, rg R q1, rg R q4, rg R q10, rg R q11, H, n)) fun ih96=>.n)) (.s (.s .n (.b (.l _ (s_f215_l82b lp G call k) (fun R H n=>(rg R q0, rg R q10, rg R q13, H, n)) fun ih82=>.n))) .n)))) .n)) (.j (fun R=>s_f215_j2 lp G call k (rg R q0) (rg R q1) (rg R q2) (rg R q3) (rg R q4)) (.s .n (.c (.s .n (.s .n (.j (fun R=>s_f215_j51 lp G call k (rg R q0) (rg R q2) (rg R q14)) (.b (.l _ (s_f215_l65b lp G call k) (fun R H n=>(rg R q0, rg R q2, rg R q4, rg R q14, rg R q15, H, n)) fun ih65=>.n)) (.s (.s .n (.b (.l _ (s_f215_l52b lp G call k) (fun R H n=>(rg R q0, rg R q14, rg R q17, H, n)) fun ih52=>.n))) .n)))) .n)) (.s .n (.s .n (.s .n (.j (fun R=>s_f215_j8 lp G call k (rg R q0) (rg R q1) (rg R q2) (rg R q3) (rg R q4) (rg R q18) (rg R q19) (rg R q20) (rg R q21)) .n (.s .n (.j (fun R=>s_f215_j10 lp G call k (rg R q0) (rg R q1) (rg R q2) (rg R q3) (rg R q4) (rg R q18) (rg R q19) (rg R q20)) (.b (.l _ (s_f215_l32b lp G call k) (fun R H n=>(rg R q0, rg R q1, rg R q2, rg R q3, rg R q4, rg R q18, rg R q19, rg R q20, rg R q21, rg R q22, H, n)) fun ih32=>.n)) (.s .n (.j (fun R=>s_f215_j12 lp G call k (rg R q0) (rg R q1) (rg R q3) (rg R q4) (rg R q18) (rg R q20) (rg R q24)) .n (.j (fun R=>s_f215_j13 lp G call k (rg R q0) (rg R q3) (rg R q4) (rg R q18) (rg R q24)) .n .n)))))))))))
theorem si_f215 {lp : LpT} (hL : LpOk lp) (G : Roms) : Ok1 G 215 (ar5 (s_f215 lp G)) :=
  .mk at_f215 <| sf5 hL (an := an_f215 lp G) (fun _ _ => obs (by kernel_rfl)) fun call a0 a1 a2 a3 a4 H n k => by kernel_rfl
noncomputable def an_f216 (lp : LpT) (G : Roms) (call : CallT) (k : KV) : An := (.s .n (.b (.l _ (s_f216_l2b lp G call k) (fun R H n=>(rg R q0, rg R q1, rg R q2, rg R q3, rg R q8, H, n)) fun ih2=>(.s .n (.j (fun R=>s_f216_j4 lp G call k ih2 (rg R q0) (rg R q1) (rg R q2) (rg R q3) (rg R q8)) (.b (.s .n (.b (.l _ (s_f216_l6b lp G call k ih2) (fun R H n=>(rg R q0, rg R q1, rg R q2, rg R q3, rg R q8, rg R q9, H, n)) fun ih6=>.n)))) .n)))))
theorem si_f216 {lp : LpT} (hL : LpOk lp) (G : Roms) : Ok1 G 216 (ar4 (s_f216 lp G)) :=
  .mk at_f216 <| sf4 hL (an := an_f216 lp G) (fun _ _ => obs (by kernel_rfl)) fun call a0 a1 a2 a3 H n k => by kernel_rfl
noncomputable def an_f217 (lp : LpT) (G : Roms) (call : CallT) (k : KV) : An := (.j (fun R=>s_f217_j1 lp G call k (rg R q0) (rg R q1) (rg R q2) (rg R q3) (rg R q4)) (.s .n (.c (.s .n (.s .n (.j (fun R=>s_f217_j81 lp G call k (rg R q0) (rg R q1) (rg R q10)) (.b (.l _ (s_f217_l96b lp G call k) (fun R H n=>(rg R q0, rg R q1, rg R q4, rg R q10, rg R q11, H, n)) fun ih96=>.n)) (.s (.s .n (.b (.l _ (s_f217_l82b lp G call k) (fun R H n=>(rg R q0, rg R q10, rg R q13, H, n)) fun ih82=>.n))) .n)))) .n)) (.j (fun R=>s_f217_j2 lp G call k (rg R q0) (rg R q1) (rg R q2) (rg R q3) (rg R q4)) (.s .n (.c (.s .n (.s .n (.j (fun R=>s_f217_j51 lp G call k (rg R q0) (rg R q2) (rg R q14)) (.b (.l _ (s_f217_l65b lp G call k) (fun R H n=>(rg R q0, rg R q2, rg R q4, rg R q14, rg R q15, H, n)) fun ih65=>.n)) (.s (.s .n (.b (.l _ (s_f217_l52b lp G call k) (fun R H n=>(rg R q0, rg R q14, rg R q17, H, n)) fun ih52=>.n))) .n)))) .n)) (.s .n (.s .n (.s .n (.j (fun R=>s_f217_j8 lp G call k (rg R q0) (rg R q1) (rg R q2) (rg R q3) (rg R q4) (rg R q18) (rg R q19) (rg R q20) (rg R q21)) .n (.s .n (.j (fun R=>s_f217_j10 lp G call k (rg R q0) (rg R q1) (rg R q2) (rg R q3) (rg R q4) (rg R q18) (rg R q19) (rg R q20)) (.b (.l _ (s_f217_l32b lp G call k) (fun R H n=>(rg R q0, rg R q1, rg R q2, rg R q3, rg R q4, rg R q18, rg R q19, rg R q20, rg R q21, rg R q22, H, n)) fun ih32=>.n)) (.s .n (.j (fun R=>s_f217_j12 lp G call k (rg R q0) (rg R q1) (rg R q3) (rg R q4) (rg R q18) (rg R q20) (rg R q24)) .n (.j (fun R=>s_f217_j13 lp G call k (rg R q0) (rg R q3) (rg R q4) (rg R q18) (rg R q24)) .n .n)))))))))))
theorem si_f217 {lp : LpT} (hL : LpOk lp) (G : Roms) : Ok1 G 217 (ar5 (s_f217 lp G)) :=
  .mk at_f217 <| sf5 hL (an := an_f217 lp G) (fun _ _ => obs (by kernel_rfl)) fun call a0 a1 a2 a3 a4 H n k => by kernel_rfl
noncomputable def an_f218 (lp : LpT) (G : Roms) (call : CallT) (k : KV) : An := (.s .n (.s .n (.j (fun R=>s_f218_j8 lp G call k (rg R q0)) (.s .n (.b (.l _ (s_f218_l18b lp G call k) (fun R H n=>(rg R q0, rg R q1, rg R q18, rg R q19, rg R q20, H, n)) fun ih18=>.n))) .n)))
theorem si_f218 {lp : LpT} (hL : LpOk lp) (G : Roms) : Ok1 G 218 (ar2 (s_f218 lp G)) :=
  .mk at_f218 <| sf2 hL (an := an_f218 lp G) (fun _ _ => obs (by kernel_rfl)) fun call a0 a1 H n k => by kernel_rfl
noncomputable def an_f219 (lp : LpT) (G : Roms) (call : CallT) (k : KV) : An := (.s .n (.j (fun R=>s_f219_j9 lp G call k (rg R q0) (rg R q1) (rg R q4) (rg R q5)) .n (.s .n (.s .n (.s .n (.j (fun R=>s_f219_j68 lp G call k (rg R q1) (rg R q9) (rg R q10)) .n .n))))))
theorem si_f219 {lp : LpT} (hL : LpOk lp) (G : Roms) : Ok1 G 219 (ar2 (s_f219 lp G)) :=
  .mk at_f219 <| sf2 hL (an := an_f219 lp G) (fun _ _ => obs (by kernel_rfl)) fun call a0 a1 H n k => by kernel_rfl
noncomputable def an_f220 (lp : LpT) (G : Roms) (call : CallT) (k : KV) : An := .n
theorem si_f220 {lp : LpT} (hL : LpOk lp) (G : Roms) : Ok1 G 220 (ar1 (s_f220 lp G)) :=
  .mk at_f220 <| sf1 hL (an := an_f220 lp G) (fun _ _ => obs (by kernel_rfl)) fun call a0 H n k => by kernel_rfl
noncomputable def an_f221 (lp : LpT) (G : Roms) (call : CallT) (k : KV) : An := (.b (.s .n (.c .n (.s .n (.c .n (.s .n (.c (.s .n (.j (fun R=>s_f221_j57 lp G call k (rg R q1)) .n .n)) .n)))))))
theorem si_f221 {lp : LpT} (hL : LpOk lp) (G : Roms) : Ok1 G 221 (ar2 (s_f221 lp G)) :=
  .mk at_f221 <| sf2 hL (an := an_f221 lp G) (fun _ _ => obs (by kernel_rfl)) fun call a0 a1 H n k => by kernel_rfl
noncomputable def an_f222 (lp : LpT) (G : Roms) (call : CallT) (k : KV) : An := (.s .n (.b (.l _ (s_f222_l1b lp G call k) (fun R H n=>(rg R q0, rg R q1, rg R q2, rg R q3, rg R q10, H, n)) fun ih1=>.n)))
theorem si_f222 {lp : LpT} (hL : LpOk lp) (G : Roms) : Ok1 G 222 (ar5 (s_f222 lp G)) :=
  .mk at_f222 <| sf5 hL (an := an_f222 lp G) (fun _ _ => obs (by kernel_rfl)) fun call a0 a1 a2 a3 a4 H n k => by kernel_rfl
noncomputable def an_f223 (lp : LpT) (G : Roms) (call : CallT) (k : KV) : An := (.s .n (.j (fun R=>s_f223_j1 lp G call k) (.s .n (.b (.l _ (s_f223_l6b lp G call k) (fun R H n=>(rg R q0, rg R q1, rg R q10, rg R q11, rg R q12, H, n)) fun ih6=>.n))) .n))
theorem si_f223 {lp : LpT} (hL : LpOk lp) (G : Roms) : Ok1 G 223 (ar2 (s_f223 lp G)) :=
  .mk at_f223 <| sf2 hL (an := an_f223 lp G) (fun _ _ => obs (by kernel_rfl)) fun call a0 a1 H n k => by kernel_rfl
noncomputable def an_f224 (lp : LpT) (G : Roms) (call : CallT) (k : KV) : An := .n
theorem si_f224 {lp : LpT} (hL : LpOk lp) (G : Roms) : Ok1 G 224 (ar2 (s_f224 lp G)) :=
  .mk at_f224 <| sf2 hL (an := an_f224 lp G) (fun _ _ => obs (by kernel_rfl)) fun call a0 a1 H n k => by kernel_rfl
noncomputable def an_f225 (lp : LpT) (G : Roms) (call : CallT) (k : KV) : An := (.s .n (.s .n (.j (fun R=>s_f225_j6 lp G call k (rg R q7)) .n .n)))
theorem si_f225 {lp : LpT} (hL : LpOk lp) (G : Roms) : Ok1 G 225 (ar3 (s_f225 lp G)) :=
  .mk at_f225 <| sf3 hL (an := an_f225 lp G) (fun _ _ => obs (by kernel_rfl)) fun call a0 a1 a2 H n k => by kernel_rfl
noncomputable def an_f226 (lp : LpT) (G : Roms) (call : CallT) (k : KV) : An := .n
theorem si_f226 {lp : LpT} (hL : LpOk lp) (G : Roms) : Ok1 G 226 (ar2 (s_f226 lp G)) :=
  .mk at_f226 <| sf2 hL (an := an_f226 lp G) (fun _ _ => obs (by kernel_rfl)) fun call a0 a1 H n k => by kernel_rfl
noncomputable def an_f227 (lp : LpT) (G : Roms) (call : CallT) (k : KV) : An := .n
theorem si_f227 {lp : LpT} (hL : LpOk lp) (G : Roms) : Ok1 G 227 (ar2 (s_f227 lp G)) :=
  .mk at_f227 <| sf2 hL (an := an_f227 lp G) (fun _ _ => obs (by kernel_rfl)) fun call a0 a1 H n k => by kernel_rfl
noncomputable def an_f228 (lp : LpT) (G : Roms) (call : CallT) (k : KV) : An := .n
theorem si_f228 {lp : LpT} (hL : LpOk lp) (G : Roms) : Ok1 G 228 (ar2 (s_f228 lp G)) :=
  .mk at_f228 <| sf2 hL (an := an_f228 lp G) (fun _ _ => obs (by kernel_rfl)) fun call a0 a1 H n k => by kernel_rfl
noncomputable def an_f229 (lp : LpT) (G : Roms) (call : CallT) (k : KV) : An := .n
theorem si_f229 {lp : LpT} (hL : LpOk lp) (G : Roms) : Ok1 G 229 (ar2 (s_f229 lp G)) :=
  .mk at_f229 <| sf2 hL (an := an_f229 lp G) (fun _ _ => obs (by kernel_rfl)) fun call a0 a1 H n k => by kernel_rfl
noncomputable def an_f230 (lp : LpT) (G : Roms) (call : CallT) (k : KV) : An := (.s .n (.s (.s .n (.b (.j (fun R=>s_f230_j4 lp G call k (rg R q0) (rg R q3) (rg R q8)) .n (.c (.s .n (.j (fun R=>s_f230_j5 lp G call k (rg R q0) (rg R q3) (rg R q4)) .n (.s .n (.j (fun R=>s_f230_j7 lp G call k) .n .n)))) .n)))) .n))
theorem si_f230 {lp : LpT} (hL : LpOk lp) (G : Roms) : Ok1 G 230 (ar2 (s_f230 lp G)) :=
  .mk at_f230 <| sf2 hL (an := an_f230 lp G) (fun _ _ => obs (by kernel_rfl)) fun call a0 a1 H n k => by kernel_rfl
noncomputable def an_f231 (lp : LpT) (G : Roms) (call : CallT) (k : KV) : An := .n
theorem si_f231 {lp : LpT} (hL : LpOk lp) (G : Roms) : Ok1 G 231 (ar2 (s_f231 lp G)) :=
  .mk at_f231 <| sf2 hL (an := an_f231 lp G) (fun _ _ => obs (by kernel_rfl)) fun call a0 a1 H n k => by kernel_rfl
noncomputable def an_f232 (lp : LpT) (G : Roms) (call : CallT) (k : KV) : An := .n
theorem si_f232 {lp : LpT} (hL : LpOk lp) (G : Roms) : Ok1 G 232 (ar2 (s_f232 lp G)) :=
  .mk at_f232 <| sf2 hL (an := an_f232 lp G) (fun _ _ => obs (by kernel_rfl)) fun call a0 a1 H n k => by kernel_rfl
noncomputable def an_f233 (lp : LpT) (G : Roms) (call : CallT) (k : KV) : An := .n
theorem si_f233 {lp : LpT} (hL : LpOk lp) (G : Roms) : Ok1 G 233 (ar4 (s_f233 lp G)) :=
  .mk at_f233 <| sf4 hL (an := an_f233 lp G) (fun _ _ => obs (by kernel_rfl)) fun call a0 a1 a2 a3 H n k => by kernel_rfl
noncomputable def an_f239 (lp : LpT) (G : Roms) (call : CallT) (k : KV) : An := (.s .n (.s .n (.j (fun R=>s_f239_j5 lp G call k (rg R q8) (rg R q9)) (.b (.l _ (s_f239_l8b lp G call k) (fun R H n=>(rg R q0, rg R q1, rg R q2, rg R q3, rg R q8, rg R q9, H, n)) fun ih8=>.n)) .n)))
theorem si_f239 {lp : LpT} (hL : LpOk lp) (G : Roms) : Ok1 G 239 (ar4 (s_f239 lp G)) :=
  .mk at_f239 <| sf4 hL (an := an_f239 lp G) (fun _ _ => obs (by kernel_rfl)) fun call a0 a1 a2 a3 H n k => by kernel_rfl
noncomputable def an_f240 (lp : LpT) (G : Roms) (call : CallT) (k : KV) : An := .n
theorem si_f240 {lp : LpT} (hL : LpOk lp) (G : Roms) : Ok1 G 240 (ar1 (s_f240 lp G)) :=
  .mk at_f240 <| sf1 hL (an := an_f240 lp G) (fun _ _ => obs (by kernel_rfl)) fun call a0 H n k => by kernel_rfl
noncomputable def an_f241 (lp : LpT) (G : Roms) (call : CallT) (k : KV) : An := (.s .n (.s .n (.s .n (.j (fun R=>s_f241_j6 lp G call k (rg R q2) (rg R q4)) .n .n))))
theorem si_f241 {lp : LpT} (hL : LpOk lp) (G : Roms) : Ok1 G 241 (ar1 (s_f241 lp G)) :=
  .mk at_f241 <| sf1 hL (an := an_f241 lp G) (fun _ _ => obs (by kernel_rfl)) fun call a0 H n k => by kernel_rfl
noncomputable def an_f242 (lp : LpT) (G : Roms) (call : CallT) (k : KV) : An := (.s .n (.s .n (.j (fun R=>s_f242_j3 lp G call k (rg R q0) (rg R q2) (rg R q4) (rg R q10)) (.b (.l _ (s_f242_l6b lp G call k) (fun R H n=>(rg R q0, rg R q2, rg R q4, rg R q10, rg R q11, H, n)) fun ih6=>.n)) .n)))
theorem si_f242 {lp : LpT} (hL : LpOk lp) (G : Roms) : Ok1 G 242 (ar5 (s_f242 lp G)) :=
  .mk at_f242 <| sf5 hL (an := an_f242 lp G) (fun _ _ => obs (by kernel_rfl)) fun call a0 a1 a2 a3 a4 H n k => by kernel_rfl
noncomputable def an_f243 (lp : LpT) (G : Roms) (call : CallT) (k : KV) : An := (.s .n (.s .n (.j (fun R=>s_f243_j3 lp G call k (rg R q0) (rg R q2) (rg R q4) (rg R q10)) (.b (.l _ (s_f243_l6b lp G call k) (fun R H n=>(rg R q0, rg R q2, rg R q4, rg R q10, rg R q11, H, n)) fun ih6=>.n)) .n)))
theorem si_f243 {lp : LpT} (hL : LpOk lp) (G : Roms) : Ok1 G 243 (ar5 (s_f243 lp G)) :=
  .mk at_f243 <| sf5 hL (an := an_f243 lp G) (fun _ _ => obs (by kernel_rfl)) fun call a0 a1 a2 a3 a4 H n k => by kernel_rfl
noncomputable def an_f244 (lp : LpT) (G : Roms) (call : CallT) (k : KV) : An := (.s .n (.s .n (.s .n (.b (.l _ (s_f244_l13b lp G call k) (fun R H n=>(rg R q0, rg R q7, rg R q21, rg R q22, rg R q23, H, n)) fun ih13=>.n)))))
theorem si_f244 {lp : LpT} (hL : LpOk lp) (G : Roms) : Ok1 G 244 (ar4 (s_f244 lp G)) :=
  .mk at_f244 <| sf4 hL (an := an_f244 lp G) (fun _ _ => obs (by kernel_rfl)) fun call a0 a1 a2 a3 H n k => by kernel_rfl
noncomputable def an_f245 (lp : LpT) (G : Roms) (call : CallT) (k : KV) : An := (.s .n (.s .n (.j (fun R=>s_f245_j6 lp G call k (rg R q7)) .n .n)))
theorem si_f245 {lp : LpT} (hL : LpOk lp) (G : Roms) : Ok1 G 245 (ar3 (s_f245 lp G)) :=
  .mk at_f245 <| sf3 hL (an := an_f245 lp G) (fun _ _ => obs (by kernel_rfl)) fun call a0 a1 a2 H n k => by kernel_rfl
noncomputable def an_f246 (lp : LpT) (G : Roms) (call : CallT) (k : KV) : An := .n
theorem si_f246 {lp : LpT} (hL : LpOk lp) (G : Roms) : Ok1 G 246 (ar2 (s_f246 lp G)) :=
  .mk at_f246 <| sf2 hL (an := an_f246 lp G) (fun _ _ => obs (by kernel_rfl)) fun call a0 a1 H n k => by kernel_rfl
noncomputable def an_f247 (lp : LpT) (G : Roms) (call : CallT) (k : KV) : An := .n
theorem si_f247 {lp : LpT} (hL : LpOk lp) (G : Roms) : Ok1 G 247 (ar3 (s_f247 lp G)) :=
  .mk at_f247 <| sf3 hL (an := an_f247 lp G) (fun _ _ => obs (by kernel_rfl)) fun call a0 a1 a2 H n k => by kernel_rfl
noncomputable def an_f248 (lp : LpT) (G : Roms) (call : CallT) (k : KV) : An := .n
theorem si_f248 {lp : LpT} (hL : LpOk lp) (G : Roms) : Ok1 G 248 (ar2 (s_f248 lp G)) :=
  .mk at_f248 <| sf2 hL (an := an_f248 lp G) (fun _ _ => obs (by kernel_rfl)) fun call a0 a1 H n k => by kernel_rfl
noncomputable def an_f249 (lp : LpT) (G : Roms) (call : CallT) (k : KV) : An := .n
theorem si_f249 {lp : LpT} (hL : LpOk lp) (G : Roms) : Ok1 G 249 (ar2 (s_f249 lp G)) :=
  .mk at_f249 <| sf2 hL (an := an_f249 lp G) (fun _ _ => obs (by kernel_rfl)) fun call a0 a1 H n k => by kernel_rfl
noncomputable def an_f250 (lp : LpT) (G : Roms) (call : CallT) (k : KV) : An := (.s .n (.s .n (.j (fun R=>s_f250_j6 lp G call k (rg R q7)) .n .n)))
theorem si_f250 {lp : LpT} (hL : LpOk lp) (G : Roms) : Ok1 G 250 (ar3 (s_f250 lp G)) :=
  .mk at_f250 <| sf3 hL (an := an_f250 lp G) (fun _ _ => obs (by kernel_rfl)) fun call a0 a1 a2 H n k => by kernel_rfl
noncomputable def an_f251 (lp : LpT) (G : Roms) (call : CallT) (k : KV) : An := .n
theorem si_f251 {lp : LpT} (hL : LpOk lp) (G : Roms) : Ok1 G 251 (ar2 (s_f251 lp G)) :=
  .mk at_f251 <| sf2 hL (an := an_f251 lp G) (fun _ _ => obs (by kernel_rfl)) fun call a0 a1 H n k => by kernel_rfl
noncomputable def an_f252 (lp : LpT) (G : Roms) (call : CallT) (k : KV) : An := (.s .n (.s .n (.j (fun R=>s_f252_j6 lp G call k (rg R q7)) .n .n)))
theorem si_f252 {lp : LpT} (hL : LpOk lp) (G : Roms) : Ok1 G 252 (ar3 (s_f252 lp G)) :=
  .mk at_f252 <| sf3 hL (an := an_f252 lp G) (fun _ _ => obs (by kernel_rfl)) fun call a0 a1 a2 H n k => by kernel_rfl
noncomputable def an_f253 (lp : LpT) (G : Roms) (call : CallT) (k : KV) : An := .n
theorem si_f253 {lp : LpT} (hL : LpOk lp) (G : Roms) : Ok1 G 253 (ar2 (s_f253 lp G)) :=
  .mk at_f253 <| sf2 hL (an := an_f253 lp G) (fun _ _ => obs (by kernel_rfl)) fun call a0 a1 H n k => by kernel_rfl
noncomputable def an_f256 (lp : LpT) (G : Roms) (call : CallT) (k : KV) : An := .n
theorem si_f256 {lp : LpT} (hL : LpOk lp) (G : Roms) : Ok1 G 256 (ar1 (s_f256 lp G)) :=
  .mk at_f256 <| sf1 hL (an := an_f256 lp G) (fun _ _ => obs (by kernel_rfl)) fun call a0 H n k => by kernel_rfl
noncomputable def an_f257 (lp : LpT) (G : Roms) (call : CallT) (k : KV) : An := (.s .n (.s .n (.j (fun R=>s_f257_j5 lp G call k (rg R q6) (rg R q7)) (.b (.l _ (s_f257_l8b lp G call k) (fun R H n=>(rg R q0, rg R q1, rg R q2, rg R q6, rg R q7, H, n)) fun ih8=>.n)) .n)))
theorem si_f257 {lp : LpT} (hL : LpOk lp) (G : Roms) : Ok1 G 257 (ar3 (s_f257 lp G)) :=
  .mk at_f257 <| sf3 hL (an := an_f257 lp G) (fun _ _ => obs (by kernel_rfl)) fun call a0 a1 a2 H n k => by kernel_rfl
noncomputable def an_f258 (lp : LpT) (G : Roms) (call : CallT) (k : KV) : An := .n
theorem si_f258 {lp : LpT} (hL : LpOk lp) (G : Roms) : Ok1 G 258 (ar1 (s_f258 lp G)) :=
  .mk at_f258 <| sf1 hL (an := an_f258 lp G) (fun _ _ => obs (by kernel_rfl)) fun call a0 H n k => by kernel_rfl
noncomputable def an_f259 (lp : LpT) (G : Roms) (call : CallT) (k : KV) : An := (.s .n (.s .n (.j (fun R=>s_f259_j10 lp G call k (rg R q0) (rg R q2) (rg R q63)) (.s .n (.b (.l _ (s_f259_l37b lp G call k) (fun R H n=>(rg R q0, rg R q2, rg R q3, rg R q16, rg R q17, rg R q18, rg R q63, H, n)) fun ih37=>.n))) (.s .n (.j (fun R=>s_f259_j14 lp G call k (rg R q2) (rg R q6) (rg R q63)) (.b (.l _ (s_f259_l17b lp G call k) (fun R H n=>(rg R q0, rg R q2, rg R q6, rg R q63, H, n)) fun ih17=>(.s .n (.b (.s .n (.s .n (.j (fun R=>s_f259_j23 lp G call k ih17 (rg R q0) (rg R q2) (rg R q6) (rg R q7) (rg R q8) (rg R q63)) .n .n))))))) .n)))))
theorem si_f259 {lp : LpT} (hL : LpOk lp) (G : Roms) : Ok1 G 259 (ar1 (s_f259 lp G)) :=
  .mk at_f259 <| sf1 hL (an := an_f259 lp G) (fun _ _ => obs (by kernel_rfl)) fun call a0 H n k => by kernel_rfl
noncomputable def an_f260 (lp : LpT) (G : Roms) (call : CallT) (k : KV) : An := (.s .n (.b (.l _ (s_f260_l1b lp G call k) (fun R H n=>(rg R q0, rg R q1, rg R q2, rg R q3, rg R q10, H, n)) fun ih1=>.n)))
theorem si_f260 {lp : LpT} (hL : LpOk lp) (G : Roms) : Ok1 G 260 (ar5 (s_f260 lp G)) :=
  .mk at_f260 <| sf5 hL (an := an_f260 lp G) (fun _ _ => obs (by kernel_rfl)) fun call a0 a1 a2 a3 a4 H n k => by kernel_rfl
noncomputable def an_f261 (lp : LpT) (G : Roms) (call : CallT) (k : KV) : An := (.s .n (.b (.l _ (s_f261_l1b lp G call k) (fun R H n=>(rg R q0, rg R q1, rg R q2, rg R q3, rg R q10, H, n)) fun ih1=>.n)))
theorem si_f261 {lp : LpT} (hL : LpOk lp) (G : Roms) : Ok1 G 261 (ar5 (s_f261 lp G)) :=
  .mk at_f261 <| sf5 hL (an := an_f261 lp G) (fun _ _ => obs (by kernel_rfl)) fun call a0 a1 a2 a3 a4 H n k => by kernel_rfl
noncomputable def an_f262 (lp : LpT) (G : Roms) (call : CallT) (k : KV) : An := (.s .n (.j (fun R=>s_f262_j1 lp G call k) (.s .n (.b (.l _ (s_f262_l3b lp G call k) (fun R H n=>(rg R q0, rg R q1, rg R q7, rg R q8, H, n)) fun ih3=>.n))) .n))
theorem si_f262 {lp : LpT} (hL : LpOk lp) (G : Roms) : Ok1 G 262 (ar2 (s_f262 lp G)) :=
  .mk at_f262 <| sf2 hL (an := an_f262 lp G) (fun _ _ => obs (by kernel_rfl)) fun call a0 a1 H n k => by kernel_rfl
noncomputable def an_f263 (lp : LpT) (G : Roms) (call : CallT) (k : KV) : An := .n
theorem si_f263 {lp : LpT} (hL : LpOk lp) (G : Roms) : Ok1 G 263 (ar3 (s_f263 lp G)) :=
  .mk at_f263 <| sf3 hL (an := an_f263 lp G) (fun _ _ => obs (by kernel_rfl)) fun call a0 a1 a2 H n k => by kernel_rfl
noncomputable def an_f264 (lp : LpT) (G : Roms) (call : CallT) (k : KV) : An := (.s .n (.j (fun R=>s_f264_j1 lp G call k) (.s .n (.b (.l _ (s_f264_l3b lp G call k) (fun R H n=>(rg R q0, rg R q1, rg R q7, rg R q8, H, n)) fun ih3=>.n))) .n))
theorem si_f264 {lp : LpT} (hL : LpOk lp) (G : Roms) : Ok1 G 264 (ar2 (s_f264 lp G)) :=
  .mk at_f264 <| sf2 hL (an := an_f264 lp G) (fun _ _ => obs (by kernel_rfl)) fun call a0 a1 H n k => by kernel_rfl
noncomputable def an_f265 (lp : LpT) (G : Roms) (call : CallT) (k : KV) : An := .n
theorem si_f265 {lp : LpT} (hL : LpOk lp) (G : Roms) : Ok1 G 265 (ar3 (s_f265 lp G)) :=
  .mk at_f265 <| sf3 hL (an := an_f265 lp G) (fun _ _ => obs (by kernel_rfl)) fun call a0 a1 a2 H n k => by kernel_rfl
noncomputable def an_f266 (lp : LpT) (G : Roms) (call : CallT) (k : KV) : An := (.s .n (.j (fun R=>s_f266_j1 lp G call k) (.s .n (.b (.l _ (s_f266_l3b lp G call k) (fun R H n=>(rg R q0, rg R q1, rg R q7, rg R q8, H, n)) fun ih3=>.n))) .n))
theorem si_f266 {lp : LpT} (hL : LpOk lp) (G : Roms) : Ok1 G 266 (ar2 (s_f266 lp G)) :=
  .mk at_f266 <| sf2 hL (an := an_f266 lp G) (fun _ _ => obs (by kernel_rfl)) fun call a0 a1 H n k => by kernel_rfl
noncomputable def an_f267 (lp : LpT) (G : Roms) (call : CallT) (k : KV) : An := .n
theorem si_f267 {lp : LpT} (hL : LpOk lp) (G : Roms) : Ok1 G 267 (ar3 (s_f267 lp G)) :=
  .mk at_f267 <| sf3 hL (an := an_f267 lp G) (fun _ _ => obs (by kernel_rfl)) fun call a0 a1 a2 H n k => by kernel_rfl
noncomputable def an_f268 (lp : LpT) (G : Roms) (call : CallT) (k : KV) : An := (.s .n (.s .n (.b (.l _ (s_f268_l5b lp G call k) (fun R H n=>(rg R q0, rg R q2, rg R q3, H, n)) fun ih5=>.n))))
theorem si_f268 {lp : LpT} (hL : LpOk lp) (G : Roms) : Ok1 G 268 (ar1 (s_f268 lp G)) :=
  .mk at_f268 <| sf1 hL (an := an_f268 lp G) (fun _ _ => obs (by kernel_rfl)) fun call a0 H n k => by kernel_rfl
noncomputable def an_f269 (lp : LpT) (G : Roms) (call : CallT) (k : KV) : An := (.s .n (.s .n (.s .n (.j (fun R=>s_f269_j14 lp G call k (rg R q2) (rg R q4)) .n .n))))
theorem si_f269 {lp : LpT} (hL : LpOk lp) (G : Roms) : Ok1 G 269 (ar1 (s_f269 lp G)) :=
  .mk at_f269 <| sf1 hL (an := an_f269 lp G) (fun _ _ => obs (by kernel_rfl)) fun call a0 H n k => by kernel_rfl
noncomputable def an_f270 (lp : LpT) (G : Roms) (call : CallT) (k : KV) : An := .n
theorem si_f270 {lp : LpT} (hL : LpOk lp) (G : Roms) : Ok1 G 270 (ar3 (s_f270 lp G)) :=
  .mk at_f270 <| sf3 hL (an := an_f270 lp G) (fun _ _ => obs (by kernel_rfl)) fun call a0 a1 a2 H n k => by kernel_rfl
noncomputable def an_f271 (lp : LpT) (G : Roms) (call : CallT) (k : KV) : An := (.s .n (.s .n (.s .n (.j (fun R=>s_f271_j3 lp G call k (rg R q3)) (.b (.l _ (s_f271_l4b lp G call k) (fun R H n=>(rg R q0, rg R q3, H, n)) fun ih4=>(.s .n (.b (.j (fun R=>s_f271_j10 lp G call k ih4 (rg R q0) (rg R q3)) .n .n))))) .n))))
theorem si_f271 {lp : LpT} (hL : LpOk lp) (G : Roms) : Ok1 G 271 (ar1 (s_f271 lp G)) :=
  .mk at_f271 <| sf1 hL (an := an_f271 lp G) (fun _ _ => obs (by kernel_rfl)) fun call a0 H n k => by kernel_rfl
end Go.R5

/- All plain functions. -/
namespace Go.R5
open Go.Eng
set_option maxRecDepth 100000
noncomputable def FS (lp : LpT) (G : Roms) : T SF := (.n none (.n none (.n none (.n none (.n (some (ar5 (s_f15 lp G))) (.n (some (ar3 (s_f31 lp G))) (.n (some (ar1 (s_f63 lp G))) (.n (some (ar2 (s_f127 lp G))) .e .e) (.n (some (ar3 (s_f191 lp G))) .e .e)) (.n (some (ar2 (s_f95 lp G))) (.n (some (ar3 (s_f159 lp G))) .e .e) (.n (some (ar2 (s_f223 lp G))) .e .e))) (.n (some (ar2 (s_f47 lp G))) (.n none (.n (some (ar2 (s_f143 lp G))) (.n (some (ar1 (s_f271 lp G))) .e .e) .e) .e) (.n none (.n (some (ar4 (s_f175 lp G))) .e .e) (.n (some (ar4 (s_f239 lp G))) .e .e)))) (.n (some (ar4 (s_f23 lp G))) (.n (some (ar1 (s_f39 lp G))) (.n (some (ar3 (s_f71 lp G))) (.n (some (ar1 (s_f135 lp G))) (.n (some (ar3 (s_f263 lp G))) .e .e) .e) (.n (some (ar3 (s_f199 lp G))) .e .e)) (.n (some (ar2 (s_f103 lp G))) (.n (some (ar3 (s_f167 lp G))) .e .e) (.n (some (ar2 (s_f231 lp G))) .e .e))) (.n none (.n (some (ar2 (s_f87 lp G))) (.n (some (ar2 (s_f151 lp G))) .e .e) (.n (some (ar5 (s_f215 lp G))) .e .e)) (.n (some (ar3 (s_f119 lp G))) (.n (some (ar1 (s_f183 lp G))) .e .e) (.n (some (ar3 (s_f247 lp G))) .e .e))))) (.n (some (ar2 (s_f11 lp G))) (.n (some (ar1 (s_f19 lp G))) (.n (some (ar4 (s_f35 lp G))) (.n (some (ar2 (s_f67 lp G))) (.n (some (ar2 (s_f131 lp G))) (.n (some (ar1 (s_f259 lp G))) .e .e) .e) (.n (some (ar2 (s_f195 lp G))) .e .e)) (.n (some (ar3 (s_f99 lp G))) (.n (some (ar1 (s_f163 lp G))) .e .e) (.n (some (ar2 (s_f227 lp G))) .e .e))) (.n (some (ar2 (s_f51 lp G))) (.n (some (ar2 (s_f83 lp G))) (.n (some (ar2 (s_f147 lp G))) .e .e) (.n (some (ar1 (s_f211 lp G))) .e .e)) (.n none (.n (some (ar2 (s_f179 lp G))) .e .e) (.n (some (ar5 (s_f243 lp G))) .e .e)))) (.n (some (ar1 (s_f27 lp G))) (.n (some (ar2 (s_f43 lp G))) (.n (some (ar1 (s_f75 lp G))) (.n (some (ar1 (s_f139 lp G))) (.n (some (ar3 (s_f267 lp G))) .e .e) .e) (.n (some (ar2 (s_f203 lp G))) .e .e)) (.n (some (ar1 (s_f107 lp G))) (.n (some (ar1 (s_f171 lp G))) .e .e) .e)) (.n none (.n (some (ar1 (s_f91 lp G))) (.n (some (ar5 (s_f155 lp G))) .e .e) (.n (some (ar2 (s_f219 lp G))) .e .e)) (.n (some (ar4 (s_f123 lp G))) (.n (some (ar3 (s_f187 lp G))) .e .e) (.n (some (ar2 (s_f251 lp G))) .e .e)))))) (.n none (.n none (.n (some (ar2 (s_f17 lp G))) (.n (some (ar1 (s_f33 lp G))) (.n (some (ar1 (s_f65 lp G))) (.n none (.n (some (ar3 (s_f257 lp G))) .e .e) .e) (.n (some (ar3 (s_f193 lp G))) .e .e)) (.n (some (ar2 (s_f97 lp G))) (.n (some (ar0 (s_f161 lp G))) .e .e) (.n (some (ar3 (s_f225 lp G))) .e .e))) (.n (some (ar2 (s_f49 lp G))) (.n (some (ar1 (s_f81 lp G))) (.n (some (ar2 (s_f145 lp G))) .e .e) .e) (.n (some (ar3 (s_f113 lp G))) (.n (some (ar3 (s_f177 lp G))) .e .e) (.n (some (ar1 (s_f241 lp G))) .e .e)))) (.n none (.n (some (ar1 (s_f41 lp G))) (.n (some (ar3 (s_f73 lp G))) (.n (some (ar1 (s_f137 lp G))) (.n (some (ar3 (s_f265 lp G))) .e .e) .e) (.n (some (ar2 (s_f201 lp G))) .e .e)) (.n (some (ar1 (s_f105 lp G))) (.n (some (ar3 (s_f169 lp G))) .e .e) (.n (some (ar4 (s_f233 lp G))) .e .e))) (.n none (.n (some (ar2 (s_f89 lp G))) (.n (some (ar2 (s_f153 lp G))) .e .e) (.n (some (ar5 (s_f217 lp G))) .e .e)) (.n (some (ar1 (s_f121 lp G))) (.n (some (ar3 (s_f185 lp G))) .e .e) (.n (some (ar2 (s_f249 lp G))) .e .e))))) (.n (some (ar0 (s_f13 lp G))) (.n (some (ar2 (s_f21 lp G))) (.n none (.n (some (ar2 (s_f69 lp G))) (.n (some (ar1 (s_f133 lp G))) (.n (some (ar5 (s_f261 lp G))) .e .e) .e) (.n (some (ar3 (s_f197 lp G))) .e .e)) (.n (some (ar3 (s_f101 lp G))) (.n (some (ar3 (s_f165 lp G))) .e .e) (.n (some (ar2 (s_f229 lp G))) .e .e))) (.n (some (ar2 (s_f53 lp G))) (.n (some (ar1 (s_f85 lp G))) (.n (some (ar1 (s_f149 lp G))) .e .e) (.n (some (ar2 (s_f213 lp G))) .e .e)) (.n (some (ar3 (s_f117 lp G))) (.n (some (ar2 (s_f181 lp G))) .e .e) (.n (some (ar3 (s_f245 lp G))) .e .e)))) (.n (some (ar2 (s_f29 lp G))) (.n (some (ar2 (s_f45 lp G))) (.n (some (ar1 (s_f77 lp G))) (.n (some (ar1 (s_f141 lp G))) (.n (some (ar1 (s_f269 lp G))) .e .e) .e) .e) (.n (some (ar2 (s_f109 lp G))) (.n (some (ar1 (s_f173 lp G))) .e .e) .e)) (.n none (.n (some (ar2 (s_f93 lp G))) (.n (some (ar2 (s_f157 lp G))) .e .e) (.n (some (ar2 (s_f221 lp G))) .e .e)) (.n (some (ar1 (s_f125 lp G))) (.n (some (ar2 (s_f189 lp G))) .e .e) (.n (some (ar2 (s_f253 lp G))) .e .e))))))) (.n none (.n none (.n none (.n (some (ar6 (s_f16 lp G))) (.n (some (ar1 (s_f32 lp G))) (.n (some (ar2 (s_f64 lp G))) (.n (some (ar1 (s_f128 lp G))) (.n (some (ar1 (s_f256 lp G))) .e .e) .e) (.n (some (ar5 (s_f192 lp G))) .e .e)) (.n (some (ar1 (s_f96 lp G))) (.n (some (ar2 (s_f160 lp G))) .e .e) (.n (some (ar2 (s_f224 lp G))) .e .e))) (.n (some (ar2 (s_f48 lp G))) (.n (some (ar1 (s_f80 lp G))) (.n (some (ar2 (s_f144 lp G))) .e .e) .e) (.n none (.n (some (ar2 (s_f176 lp G))) .e .e) (.n (some (ar1 (s_f240 lp G))) .e .e)))) (.n none (.n (some (ar1 (s_f40 lp G))) (.n (some (ar3 (s_f72 lp G))) (.n (some (ar1 (s_f136 lp G))) (.n (some (ar2 (s_f264 lp G))) .e .e) .e) (.n (some (ar3 (s_f200 lp G))) .e .e)) (.n (some (ar2 (s_f104 lp G))) (.n (some (ar1 (s_f168 lp G))) .e .e) (.n (some (ar2 (s_f232 lp G))) .e .e))) (.n (some (ar2 (s_f56 lp G))) (.n (some (ar1 (s_f88 lp G))) (.n (some (ar4 (s_f152 lp G))) .e .e) (.n (some (ar4 (s_f216 lp G))) .e .e)) (.n (some (ar3 (s_f120 lp G))) (.n (some (ar1 (s_f184 lp G))) .e .e) (.n (some (ar2 (s_f248 lp G))) .e .e))))) (.n none (.n (some (ar1 (s_f20 lp G))) (.n (some (ar2 (s_f36 lp G))) (.n (some (ar3 (s_f68 lp G))) (.n (some (ar2 (s_f132 lp G))) (.n (some (ar5 (s_f260 lp G))) .e .e) .e) (.n (some (ar2 (s_f196 lp G))) .e .e)) (.n (some (ar2 (s_f100 lp G))) (.n (some (ar1 (s_f164 lp G))) .e .e) (.n (some (ar2 (s_f228 lp G))) .e .e))) (.n (some (ar1 (s_f52 lp G))) (.n (some (ar2 (s_f84 lp G))) (.n (some (ar1 (s_f148 lp G))) .e .e) (.n (some (ar1 (s_f212 lp G))) .e .e)) (.n (some (ar1 (s_f116 lp G))) .e (.n (some (ar4 (s_f244 lp G))) .e .e)))) (.n (some (ar0 (s_f28 lp G))) (.n (some (ar2 (s_f44 lp G))) (.n (some (ar2 (s_f76 lp G))) (.n (some (ar1 (s_f140 lp G))) (.n (some (ar1 (s_f268 lp G))) .e .e) .e) (.n (some (ar3 (s_f204 lp G))) .e .e)) (.n (some (ar2 (s_f108 lp G))) (.n (some (ar3 (s_f172 lp G))) .e .e) .e)) (.n none (.n (some (ar1 (s_f92 lp G))) .e (.n (some (ar1 (s_f220 lp G))) .e .e)) (.n (some (ar3 (s_f124 lp G))) (.n (some (ar1 (s_f188 lp G))) .e .e) (.n (some (ar3 (s_f252 lp G))) .e .e)))))) (.n none (.n (some (ar1 (s_f10 lp G))) (.n none (.n (some (ar4 (s_f34 lp G))) (.n (some (ar2 (s_f66 lp G))) (.n (some (ar2 (s_f130 lp G))) (.n (some (ar1 (s_f258 lp G))) .e .e) .e) (.n (some (ar2 (s_f194 lp G))) .e .e)) (.n (some (ar3 (s_f98 lp G))) (.n (some (ar1 (s_f162 lp G))) .e .e) (.n (some (ar2 (s_f226 lp G))) .e .e))) (.n (some (ar2 (s_f50 lp G))) (.n (some (ar2 (s_f82 lp G))) (.n (some (ar2 (s_f146 lp G))) .e .e) (.n (some (ar1 (s_f210 lp G))) .e .e)) (.n none (.n (some (ar3 (s_f178 lp G))) .e .e) (.n (some (ar5 (s_f242 lp G))) .e .e)))) (.n (some (ar1 (s_f26 lp G))) (.n (some (ar1 (s_f42 lp G))) (.n (some (ar2 (s_f74 lp G))) (.n (some (ar1 (s_f138 lp G))) (.n (some (ar2 (s_f266 lp G))) .e .e) .e) (.n (some (ar1 (s_f202 lp G))) .e .e)) (.n (some (ar1 (s_f106 lp G))) (.n (some (ar0 (s_f170 lp G))) .e .e) .e)) (.n none (.n (some (ar1 (s_f90 lp G))) (.n (some (ar4 (s_f154 lp G))) .e .e) (.n (some (ar2 (s_f218 lp G))) .e .e)) (.n (some (ar1 (s_f122 lp G))) (.n (some (ar3 (s_f186 lp G))) .e .e) (.n (some (ar3 (s_f250 lp G))) .e .e))))) (.n (some (ar2 (s_f14 lp G))) (.n (some (ar2 (s_f22 lp G))) (.n (some (ar1 (s_f38 lp G))) (.n (some (ar1 (s_f70 lp G))) (.n (some (ar2 (s_f134 lp G))) (.n (some (ar2 (s_f262 lp G))) .e .e) .e) (.n (some (ar3 (s_f198 lp G))) .e .e)) (.n (some (ar2 (s_f102 lp G))) .e (.n (some (ar2 (s_f230 lp G))) .e .e))) (.n (some (ar2 (s_f54 lp G))) (.n (some (ar2 (s_f86 lp G))) (.n (some (ar2 (s_f150 lp G))) .e .e) (.n (some (ar4 (s_f214 lp G))) .e .e)) (.n (some (ar1 (s_f118 lp G))) (.n (some (ar2 (s_f182 lp G))) .e .e) (.n (some (ar2 (s_f246 lp G))) .e .e)))) (.n (some (ar1 (s_f30 lp G))) (.n (some (ar1 (s_f46 lp G))) (.n none (.n (some (ar1 (s_f142 lp G))) (.n (some (ar3 (s_f270 lp G))) .e .e) .e) .e) (.n (some (ar2 (s_f110 lp G))) (.n (some (ar3 (s_f174 lp G))) .e .e) .e)) (.n (some (ar2 (s_f62 lp G))) (.n (some (ar3 (s_f94 lp G))) (.n (some (ar4 (s_f158 lp G))) .e .e) (.n (some (ar5 (s_f222 lp G))) .e .e)) (.n (some (ar1 (s_f126 lp G))) (.n (some (ar3 (s_f190 lp G))) .e .e) .e)))))))
theorem all_ok {lp : LpT} (hL : LpOk lp) (G : Roms) : T.All (fun p s => Ok1 G p.key s) (FS lp G) := (.n0 (.n0 (.n0 (.n0 (.n1 (si_f15 hL G) (.n1 (si_f31 hL G) (.n1 (si_f63 hL G) (.n1 (si_f127 hL G) .e .e) (.n1 (si_f191 hL G) .e .e)) (.n1 (si_f95 hL G) (.n1 (si_f159 hL G) .e .e) (.n1 (si_f223 hL G) .e .e))) (.n1 (si_f47 hL G) (.n0 (.n1 (si_f143 hL G) (.n1 (si_f271 hL G) .e .e) .e) .e) (.n0 (.n1 (si_f175 hL G) .e .e) (.n1 (si_f239 hL G) .e .e)))) (.n1 (si_f23 hL G) (.n1 (si_f39 hL G) (.n1 (si_f71 hL G) (.n1 (si_f135 hL G) (.n1 (si_f263 hL G) .e .e) .e) (.n1 (si_f199 hL G) .e .e)) (.n1 (si_f103 hL G) (.n1 (si_f167 hL G) .e .e) (.n1 (si_f231 hL G) .e .e))) (.n0 (.n1 (si_f87 hL G) (.n1 (si_f151 hL G) .e .e) (.n1 (si_f215 hL G) .e .e)) (.n1 (si_f119 hL G) (.n1 (si_f183 hL G) .e .e) (.n1 (si_f247 hL G) .e .e))))) (.n1 (si_f11 hL G) (.n1 (si_f19 hL G) (.n1 (si_f35 hL G) (.n1 (si_f67 hL G) (.n1 (si_f131 hL G) (.n1 (si_f259 hL G) .e .e) .e) (.n1 (si_f195 hL G) .e .e)) (.n1 (si_f99 hL G) (.n1 (si_f163 hL G) .e .e) (.n1 (si_f227 hL G) .e .e))) (.n1 (si_f51 hL G) (.n1 (si_f83 hL G) (.n1 (si_f147 hL G) .e .e) (.n1 (si_f211 hL G) .e .e)) (.n0 (.n1 (si_f179 hL G) .e .e) (.n1 (si_f243 hL G) .e .e)))) (.n1 (si_f27 hL G) (.n1 (si_f43 hL G) (.n1 (si_f75 hL G) (.n1 (si_f139 hL G) (.n1 (si_f267 hL G) .e .e) .e) (.n1 (si_f203 hL G) .e .e)) (.n1 (si_f107 hL G) (.n1 (si_f171 hL G) .e .e) .e)) (.n0 (.n1 (si_f91 hL G) (.n1 (si_f155 hL G) .e .e) (.n1 (si_f219 hL G) .e .e)) (.n1 (si_f123 hL G) (.n1 (si_f187 hL G) .e .e) (.n1 (si_f251 hL G) .e .e)))))) (.n0 (.n0 (.n1 (si_f17 hL G) (.n1 (si_f33 hL G) (.n1 (si_f65 hL G) (.n0 (.n1 (si_f257 hL G) .e .e) .e) (.n1 (si_f193 hL G) .e .e)) (.n1 (si_f97 hL G) (.n1 (si_f161 hL G) .e .e) (.n1 (si_f225 hL G) .e .e))) (.n1 (si_f49 hL G) (.n1 (si_f81 hL G) (.n1 (si_f145 hL G) .e .e) .e) (.n1 (si_f113 hL G) (.n1 (si_f177 hL G) .e .e) (.n1 (si_f241 hL G) .e .e)))) (.n0 (.n1 (si_f41 hL G) (.n1 (si_f73 hL G) (.n1 (si_f137 hL G) (.n1 (si_f265 hL G) .e .e) .e) (.n1 (si_f201 hL G) .e .e)) (.n1 (si_f105 hL G) (.n1 (si_f169 hL G) .e .e) (.n1 (si_f233 hL G) .e .e))) (.n0 (.n1 (si_f89 hL G) (.n1 (si_f153 hL G) .e .e) (.n1 (si_f217 hL G) .e .e)) (.n1 (si_f121 hL G) (.n1 (si_f185 hL G) .e .e) (.n1 (si_f249 hL G) .e .e))))) (.n1 (si_f13 hL G) (.n1 (si_f21 hL G) (.n0 (.n1 (si_f69 hL G) (.n1 (si_f133 hL G) (.n1 (si_f261 hL G) .e .e) .e) (.n1 (si_f197 hL G) .e .e)) (.n1 (si_f101 hL G) (.n1 (si_f165 hL G) .e .e) (.n1 (si_f229 hL G) .e .e))) (.n1 (si_f53 hL G) (.n1 (si_f85 hL G) (.n1 (si_f149 hL G) .e .e) (.n1 (si_f213 hL G) .e .e)) (.n1 (si_f117 hL G) (.n1 (si_f181 hL G) .e .e) (.n1 (si_f245 hL G) .e .e)))) (.n1 (si_f29 hL G) (.n1 (si_f45 hL G) (.n1 (si_f77 hL G) (.n1 (si_f141 hL G) (.n1 (si_f269 hL G) .e .e) .e) .e) (.n1 (si_f109 hL G) (.n1 (si_f173 hL G) .e .e) .e)) (.n0 (.n1 (si_f93 hL G) (.n1 (si_f157 hL G) .e .e) (.n1 (si_f221 hL G) .e .e)) (.n1 (si_f125 hL G) (.n1 (si_f189 hL G) .e .e) (.n1 (si_f253 hL G) .e .e))))))) (.n0 (.n0 (.n0 (.n1 (si_f16 hL G) (.n1 (si_f32 hL G) (.n1 (si_f64 hL G) (.n1 (si_f128 hL G) (.n1 (si_f256 hL G) .e .e) .e) (.n1 (si_f192 hL G) .e .e)) (.n1 (si_f96 hL G) (.n1 (si_f160 hL G) .e .e) (.n1 (si_f224 hL G) .e .e))) (.n1 (si_f48 hL G) (.n1 (si_f80 hL G) (.n1 (si_f144 hL G) .e .e) .e) (.n0 (.n1 (si_f176 hL G) .e .e) (.n1 (si_f240 hL G) .e .e)))) (.n0 (.n1 (si_f40 hL G) (.n1 (si_f72 hL G) (.n1 (si_f136 hL G) (.n1 (si_f264 hL G) .e .e) .e) (.n1 (si_f200 hL G) .e .e)) (.n1 (si_f104 hL G) (.n1 (si_f168 hL G) .e .e) (.n1 (si_f232 hL G) .e .e))) (.n1 (si_f56 hL G) (.n1 (si_f88 hL G) (.n1 (si_f152 hL G) .e .e) (.n1 (si_f216 hL G) .e .e)) (.n1 (si_f120 hL G) (.n1 (si_f184 hL G) .e .e) (.n1 (si_f248 hL G) .e .e))))) (.n0 (.n1 (si_f20 hL G) (.n1 (si_f36 hL G) (.n1 (si_f68 hL G) (.n1 (si_f132 hL G) (.n1 (si_f260 hL G) .e .e) .e) (.n1 (si_f196 hL G) .e .e)) (.n1 (si_f100 hL G) (.n1 (si_f164 hL G) .e .e) (.n1 (si_f228 hL G) .e .e))) (.n1 (si_f52 hL G) (.n1 (si_f84 hL G) (.n1 (si_f148 hL G) .e .e) (.n1 (si_f212 hL G) .e .e)) (.n1 (si_f116 hL G) .e (.n1 (si_f244 hL G) .e .e)))) (.n1 (si_f28 hL G) (.n1 (si_f44 hL G) (.n1 (si_f76 hL G) (.n1 (si_f140 hL G) (.n1 (si_f268 hL G) .e .e) .e) (.n1 (si_f204 hL G) .e .e)) (.n1 (si_f108 hL G) (.n1 (si_f172 hL G) .e .e) .e)) (.n0 (.n1 (si_f92 hL G) .e (.n1 (si_f220 hL G) .e .e)) (.n1 (si_f124 hL G) (.n1 (si_f188 hL G) .e .e) (.n1 (si_f252 hL G) .e .e)))))) (.n0 (.n1 (si_f10 hL G) (.n0 (.n1 (si_f34 hL G) (.n1 (si_f66 hL G) (.n1 (si_f130 hL G) (.n1 (si_f258 hL G) .e .e) .e) (.n1 (si_f194 hL G) .e .e)) (.n1 (si_f98 hL G) (.n1 (si_f162 hL G) .e .e) (.n1 (si_f226 hL G) .e .e))) (.n1 (si_f50 hL G) (.n1 (si_f82 hL G) (.n1 (si_f146 hL G) .e .e) (.n1 (si_f210 hL G) .e .e)) (.n0 (.n1 (si_f178 hL G) .e .e) (.n1 (si_f242 hL G) .e .e)))) (.n1 (si_f26 hL G) (.n1 (si_f42 hL G) (.n1 (si_f74 hL G) (.n1 (si_f138 hL G) (.n1 (si_f266 hL G) .e .e) .e) (.n1 (si_f202 hL G) .e .e)) (.n1 (si_f106 hL G) (.n1 (si_f170 hL G) .e .e) .e)) (.n0 (.n1 (si_f90 hL G) (.n1 (si_f154 hL G) .e .e) (.n1 (si_f218 hL G) .e .e)) (.n1 (si_f122 hL G) (.n1 (si_f186 hL G) .e .e) (.n1 (si_f250 hL G) .e .e))))) (.n1 (si_f14 hL G) (.n1 (si_f22 hL G) (.n1 (si_f38 hL G) (.n1 (si_f70 hL G) (.n1 (si_f134 hL G) (.n1 (si_f262 hL G) .e .e) .e) (.n1 (si_f198 hL G) .e .e)) (.n1 (si_f102 hL G) .e (.n1 (si_f230 hL G) .e .e))) (.n1 (si_f54 hL G) (.n1 (si_f86 hL G) (.n1 (si_f150 hL G) .e .e) (.n1 (si_f214 hL G) .e .e)) (.n1 (si_f118 hL G) (.n1 (si_f182 hL G) .e .e) (.n1 (si_f246 hL G) .e .e)))) (.n1 (si_f30 hL G) (.n1 (si_f46 hL G) (.n0 (.n1 (si_f142 hL G) (.n1 (si_f270 hL G) .e .e) .e) .e) (.n1 (si_f110 hL G) (.n1 (si_f174 hL G) .e .e) .e)) (.n1 (si_f62 hL G) (.n1 (si_f94 hL G) (.n1 (si_f158 hL G) .e .e) (.n1 (si_f222 hL G) .e .e)) (.n1 (si_f126 hL G) (.n1 (si_f190 hL G) .e .e) .e)))))))
theorem fs_ok {lp : LpT} (hL : LpOk lp) (G : Roms) : FsOk F G (FS lp G) := fun f s h => by
  have := T.All.getp (p := pth f) (all_ok hL G) h
  rw [key_pth] at this
  obtain ⟨h, o⟩ := this
  exact ⟨_, h, o⟩
end Go.R5

