/- Part of a proof: texts RBSi RBSt of the engine and what is proved with it; nothing is assumed. -/
import Derived.Test.YtmbhlmocojopaaaGreatDoorPlain
import Derived.Test.YtmbhlmocojopaaaGreatDoorCode
import Derived.Test.YtmbhlmocojopaaaGreatDoorEngE
set_option linter.unusedVariables false
set_option linter.unusedSimpArgs false
/- They are right: printed by program. -/
namespace Go.R3
open Go.Eng
set_option maxRecDepth 100000
inductive Ok1 (G : Roms) (n : Nat) (s : SF) : Prop where
  | mk {af : AF} (h : T.get F n = some af) (o : SfOk G af s) : Ok1 G n s
noncomputable def an_f20 (lp : LpT) (G : Roms) (call : CallT) (k : KV) : An := (.s .n (.s .n (.s .n (.s .n (.s .n (.s .n (.j (fun R=>s_f20_j42 lp G call k (rg R q3) (rg R q4) (rg R q5) (rg R q9)) (.s .n (.b (.l _ (s_f20_l61b lp G call k) (fun R H n=>(rg R q3, rg R q4, rg R q5, rg R q9, rg R q52, rg R q53, rg R q54, H, n)) fun ih61=>.n))) .n)))))))
theorem si_f20 {lp : LpT} (hL : LpOk lp) (G : Roms) : Ok1 G 20 (ar2 (s_f20 lp G)) :=
  .mk at_f20 <| sf2 hL (an := an_f20 lp G) (fun _ _ => obs (by kernel_rfl)) fun call a0 a1 H n k => by kernel_rfl
noncomputable def an_f23 (lp : LpT) (G : Roms) (call : CallT) (k : KV) : An := .n
theorem si_f23 {lp : LpT} (hL : LpOk lp) (G : Roms) : Ok1 G 23 (ar0 (s_f23 lp G)) :=
  .mk at_f23 <| sf0 hL (an := an_f23 lp G) (fun _ _ => obs (by kernel_rfl)) fun call  H n k => by kernel_rfl
noncomputable def an_f24 (lp : LpT) (G : Roms) (call : CallT) (k : KV) : An := (.s .n (.s .n (.j (fun R=>s_f24_j2 lp G call k (rg R q5)) (.s .n (.b (.l _ (s_f24_l29b lp G call k) (fun R H n=>(rg R q5, rg R q17, rg R q18, rg R q19, H, n)) fun ih29=>.n))) (.s .n (.s .n (.j (fun R=>s_f24_j5 lp G call k (rg R q10) (rg R q11)) (.s .n (.b (.l _ (s_f24_l7b lp G call k) (fun R H n=>(rg R q10, rg R q11, rg R q39, rg R q40, rg R q41, H, n)) fun ih7=>.n))) .n))))))
theorem si_f24 {lp : LpT} (hL : LpOk lp) (G : Roms) : Ok1 G 24 (ar1 (s_f24 lp G)) :=
  .mk at_f24 <| sf1 hL (an := an_f24 lp G) (fun _ _ => obs (by kernel_rfl)) fun call a0 H n k => by kernel_rfl
noncomputable def an_f25 (lp : LpT) (G : Roms) (call : CallT) (k : KV) : An := (.s .n (.s .n (.j (fun R=>s_f25_j7 lp G call k (rg R q0) (rg R q2) (rg R q3) (rg R q4) (rg R q12) (rg R q14)) (.s .n (.b (.l _ (s_f25_l66b lp G call k) (fun R H n=>(rg R q0, rg R q2, rg R q3, rg R q4, rg R q12, rg R q14, rg R q29, rg R q30, rg R q31, H, n)) fun ih66=>.n))) (.s .n (.s .n (.s .n (.j (fun R=>s_f25_j34 lp G call k (rg R q2) (rg R q3) (rg R q12) (rg R q14) (rg R q20)) (.s .n (.b (.l _ (s_f25_l57b lp G call k) (fun R H n=>(rg R q2, rg R q3, rg R q12, rg R q14, rg R q20, rg R q74, rg R q75, rg R q76, H, n)) fun ih57=>.n))) (.s .n (.j (fun R=>s_f25_j39 lp G call k (rg R q12) (rg R q14) (rg R q23)) .n .n)))))))))
theorem si_f25 {lp : LpT} (hL : LpOk lp) (G : Roms) : Ok1 G 25 (ar6 (s_f25 lp G)) :=
  .mk at_f25 <| sf6 hL (an := an_f25 lp G) (fun _ _ => obs (by kernel_rfl)) fun call a0 a1 a2 a3 a4 a5 H n k => by kernel_rfl
noncomputable def an_f30 (lp : LpT) (G : Roms) (call : CallT) (k : KV) : An := .n
theorem si_f30 {lp : LpT} (hL : LpOk lp) (G : Roms) : Ok1 G 30 (ar0 (s_f30 lp G)) :=
  .mk at_f30 <| sf0 hL (an := an_f30 lp G) (fun _ _ => obs (by kernel_rfl)) fun call  H n k => by kernel_rfl
noncomputable def an_f33 (lp : LpT) (G : Roms) (call : CallT) (k : KV) : An := (.s .n (.s .n (.j (fun R=>s_f33_j2 lp G call k (rg R q3)) (.s .n (.b (.l _ (s_f33_l5b lp G call k) (fun R H n=>(rg R q3, rg R q7, rg R q8, rg R q9, H, n)) fun ih5=>.n))) .n)))
theorem si_f33 {lp : LpT} (hL : LpOk lp) (G : Roms) : Ok1 G 33 (ar1 (s_f33 lp G)) :=
  .mk at_f33 <| sf1 hL (an := an_f33 lp G) (fun _ _ => obs (by kernel_rfl)) fun call a0 H n k => by kernel_rfl
noncomputable def an_f36 (lp : LpT) (G : Roms) (call : CallT) (k : KV) : An := (.s .n (.s .n (.j (fun R=>s_f36_j5 lp G call k (rg R q3)) (.s .n (.b (.l _ (s_f36_l7b lp G call k) (fun R H n=>(rg R q3, rg R q10, rg R q11, rg R q12, H, n)) fun ih7=>.n))) .n)))
theorem si_f36 {lp : LpT} (hL : LpOk lp) (G : Roms) : Ok1 G 36 (ar1 (s_f36 lp G)) :=
  .mk at_f36 <| sf1 hL (an := an_f36 lp G) (fun _ _ => obs (by kernel_rfl)) fun call a0 H n k => by kernel_rfl
noncomputable def an_f37 (lp : LpT) (G : Roms) (call : CallT) (k : KV) : An := (.s .n (.s .n (.s .n (.s .n (.s .n (.s .n (.j (fun R=>s_f37_j32 lp G call k (rg R q0) (rg R q5)) (.s .n (.b (.l _ (s_f37_l74b lp G call k) (fun R H n=>(rg R q0, rg R q5, rg R q67, rg R q68, rg R q69, H, n)) fun ih74=>.n))) (.j (fun R=>s_f37_j33 lp G call k) (.s .n (.b (.l _ (s_f37_l37b lp G call k) (fun R H n=>(rg R q0, rg R q5, rg R q92, rg R q93, rg R q94, H, n)) fun ih37=>.n))) .n))))))))
theorem si_f37 {lp : LpT} (hL : LpOk lp) (G : Roms) : Ok1 G 37 (ar2 (s_f37 lp G)) :=
  .mk at_f37 <| sf2 hL (an := an_f37 lp G) (fun _ _ => obs (by kernel_rfl)) fun call a0 a1 H n k => by kernel_rfl
noncomputable def an_f40 (lp : LpT) (G : Roms) (call : CallT) (k : KV) : An := .n
theorem si_f40 {lp : LpT} (hL : LpOk lp) (G : Roms) : Ok1 G 40 (ar1 (s_f40 lp G)) :=
  .mk at_f40 <| sf1 hL (an := an_f40 lp G) (fun _ _ => obs (by kernel_rfl)) fun call a0 H n k => by kernel_rfl
noncomputable def an_f43 (lp : LpT) (G : Roms) (call : CallT) (k : KV) : An := .n
theorem si_f43 {lp : LpT} (hL : LpOk lp) (G : Roms) : Ok1 G 43 (ar0 (s_f43 lp G)) :=
  .mk at_f43 <| sf0 hL (an := an_f43 lp G) (fun _ _ => obs (by kernel_rfl)) fun call  H n k => by kernel_rfl
noncomputable def an_f45 (lp : LpT) (G : Roms) (call : CallT) (k : KV) : An := (.s .n (.s .n (.j (fun R=>s_f45_j13 lp G call k (rg R q2) (rg R q3)) (.s .n (.b (.l _ (s_f45_l20b lp G call k) (fun R H n=>(rg R q2, rg R q3, rg R q15, rg R q16, rg R q17, H, n)) fun ih20=>.n))) .n)))
theorem si_f45 {lp : LpT} (hL : LpOk lp) (G : Roms) : Ok1 G 45 (ar1 (s_f45 lp G)) :=
  .mk at_f45 <| sf1 hL (an := an_f45 lp G) (fun _ _ => obs (by kernel_rfl)) fun call a0 H n k => by kernel_rfl
noncomputable def an_f46 (lp : LpT) (G : Roms) (call : CallT) (k : KV) : An := (.s .n (.s .n (.j (fun R=>s_f46_j4 lp G call k) (.s .n (.b (.l _ (s_f46_l6b lp G call k) (fun R H n=>(rg R q0, rg R q1, rg R q12, rg R q13, H, n)) fun ih6=>.n))) .n)))
theorem si_f46 {lp : LpT} (hL : LpOk lp) (G : Roms) : Ok1 G 46 (ar2 (s_f46 lp G)) :=
  .mk at_f46 <| sf2 hL (an := an_f46 lp G) (fun _ _ => obs (by kernel_rfl)) fun call a0 a1 H n k => by kernel_rfl
noncomputable def an_f51 (lp : LpT) (G : Roms) (call : CallT) (k : KV) : An := .n
theorem si_f51 {lp : LpT} (hL : LpOk lp) (G : Roms) : Ok1 G 51 (ar2 (s_f51 lp G)) :=
  .mk at_f51 <| sf2 hL (an := an_f51 lp G) (fun _ _ => obs (by kernel_rfl)) fun call a0 a1 H n k => by kernel_rfl
noncomputable def an_f52 (lp : LpT) (G : Roms) (call : CallT) (k : KV) : An := .n
theorem si_f52 {lp : LpT} (hL : LpOk lp) (G : Roms) : Ok1 G 52 (ar2 (s_f52 lp G)) :=
  .mk at_f52 <| sf2 hL (an := an_f52 lp G) (fun _ _ => obs (by kernel_rfl)) fun call a0 a1 H n k => by kernel_rfl
noncomputable def an_f53 (lp : LpT) (G : Roms) (call : CallT) (k : KV) : An := .n
theorem si_f53 {lp : LpT} (hL : LpOk lp) (G : Roms) : Ok1 G 53 (ar1 (s_f53 lp G)) :=
  .mk at_f53 <| sf1 hL (an := an_f53 lp G) (fun _ _ => obs (by kernel_rfl)) fun call a0 H n k => by kernel_rfl
noncomputable def an_f54 (lp : LpT) (G : Roms) (call : CallT) (k : KV) : An := (.s .n (.s .n (.j (fun R=>s_f54_j11 lp G call k (rg R q0) (rg R q3) (rg R q4)) (.s .n (.b (.l _ (s_f54_l22b lp G call k) (fun R H n=>(rg R q0, rg R q3, rg R q4, rg R q16, rg R q17, rg R q18, H, n)) fun ih22=>.n))) .n)))
theorem si_f54 {lp : LpT} (hL : LpOk lp) (G : Roms) : Ok1 G 54 (ar2 (s_f54 lp G)) :=
  .mk at_f54 <| sf2 hL (an := an_f54 lp G) (fun _ _ => obs (by kernel_rfl)) fun call a0 a1 H n k => by kernel_rfl
noncomputable def an_f58 (lp : LpT) (G : Roms) (call : CallT) (k : KV) : An := .n
theorem si_f58 {lp : LpT} (hL : LpOk lp) (G : Roms) : Ok1 G 58 (ar1 (s_f58 lp G)) :=
  .mk at_f58 <| sf1 hL (an := an_f58 lp G) (fun _ _ => obs (by kernel_rfl)) fun call a0 H n k => by kernel_rfl
noncomputable def an_f59 (lp : LpT) (G : Roms) (call : CallT) (k : KV) : An := (.s .n (.s .n (.j (fun R=>s_f59_j5 lp G call k (rg R q9)) (.s .n (.b (.l _ (s_f59_l9b lp G call k) (fun R H n=>(rg R q0, rg R q2, rg R q3, rg R q9, rg R q25, rg R q26, rg R q27, H, n)) fun ih9=>.n))) .n)))
theorem si_f59 {lp : LpT} (hL : LpOk lp) (G : Roms) : Ok1 G 59 (ar4 (s_f59 lp G)) :=
  .mk at_f59 <| sf4 hL (an := an_f59 lp G) (fun _ _ => obs (by kernel_rfl)) fun call a0 a1 a2 a3 H n k => by kernel_rfl
noncomputable def an_f60 (lp : LpT) (G : Roms) (call : CallT) (k : KV) : An := .n
theorem si_f60 {lp : LpT} (hL : LpOk lp) (G : Roms) : Ok1 G 60 (ar2 (s_f60 lp G)) :=
  .mk at_f60 <| sf2 hL (an := an_f60 lp G) (fun _ _ => obs (by kernel_rfl)) fun call a0 a1 H n k => by kernel_rfl
noncomputable def an_f61 (lp : LpT) (G : Roms) (call : CallT) (k : KV) : An := .n
theorem si_f61 {lp : LpT} (hL : LpOk lp) (G : Roms) : Ok1 G 61 (ar1 (s_f61 lp G)) :=
  .mk at_f61 <| sf1 hL (an := an_f61 lp G) (fun _ _ => obs (by kernel_rfl)) fun call a0 H n k => by kernel_rfl
noncomputable def an_f62 (lp : LpT) (G : Roms) (call : CallT) (k : KV) : An := (.s .n (.j (fun R=>s_f62_j4 lp G call k (rg R q2) (rg R q3) (rg R q4) (rg R q5) (rg R q8) (rg R q68)) .n (.s .n (.s .n (.j (fun R=>s_f62_j10 lp G call k (rg R q5) (rg R q8) (rg R q9) (rg R q68)) (.s .n (.b (.l _ (s_f62_l21b lp G call k) (fun R H n=>(rg R q3, rg R q5, rg R q8, rg R q9, rg R q38, rg R q39, rg R q40, rg R q68, H, n)) fun ih21=>(.s .n (.s .n (.j (fun R=>s_f62_j23 lp G call k ih21 (rg R q3) (rg R q5) (rg R q8) (rg R q9) (rg R q38) (rg R q39) (rg R q40) (rg R q68)) .n .n)))))) .n)))))
theorem si_f62 {lp : LpT} (hL : LpOk lp) (G : Roms) : Ok1 G 62 (ar4 (s_f62 lp G)) :=
  .mk at_f62 <| sf4 hL (an := an_f62 lp G) (fun _ _ => obs (by kernel_rfl)) fun call a0 a1 a2 a3 H n k => by kernel_rfl
noncomputable def an_f63 (lp : LpT) (G : Roms) (call : CallT) (k : KV) : An := (.s .n (.s .n (.j (fun R=>s_f63_j11 lp G call k (rg R q8)) (.s .n (.b (.l _ (s_f63_l20b lp G call k) (fun R H n=>(rg R q2, rg R q3, rg R q8, rg R q32, rg R q33, rg R q34, H, n)) fun ih20=>.n))) .n)))
theorem si_f63 {lp : LpT} (hL : LpOk lp) (G : Roms) : Ok1 G 63 (ar4 (s_f63 lp G)) :=
  .mk at_f63 <| sf4 hL (an := an_f63 lp G) (fun _ _ => obs (by kernel_rfl)) fun call a0 a1 a2 a3 H n k => by kernel_rfl
noncomputable def an_f67 (lp : LpT) (G : Roms) (call : CallT) (k : KV) : An := (.s .n (.s .n (.j (fun R=>s_f67_j1 lp G call k (rg R q6)) (.b (.l _ (s_f67_l2b lp G call k) (fun R H n=>(rg R q0, rg R q1, rg R q6, H, n)) fun ih2=>.n)) .n)))
theorem si_f67 {lp : LpT} (hL : LpOk lp) (G : Roms) : Ok1 G 67 (ar2 (s_f67 lp G)) :=
  .mk at_f67 <| sf2 hL (an := an_f67 lp G) (fun _ _ => obs (by kernel_rfl)) fun call a0 a1 H n k => by kernel_rfl
noncomputable def an_f68 (lp : LpT) (G : Roms) (call : CallT) (k : KV) : An := (.s .n (.s .n (.j (fun R=>s_f68_j5 lp G call k (rg R q7)) (.s .n (.b (.l _ (s_f68_l9b lp G call k) (fun R H n=>(rg R q0, rg R q2, rg R q7, rg R q23, rg R q24, rg R q25, H, n)) fun ih9=>.n))) .n)))
theorem si_f68 {lp : LpT} (hL : LpOk lp) (G : Roms) : Ok1 G 68 (ar3 (s_f68 lp G)) :=
  .mk at_f68 <| sf3 hL (an := an_f68 lp G) (fun _ _ => obs (by kernel_rfl)) fun call a0 a1 a2 H n k => by kernel_rfl
noncomputable def an_f71 (lp : LpT) (G : Roms) (call : CallT) (k : KV) : An := .n
theorem si_f71 {lp : LpT} (hL : LpOk lp) (G : Roms) : Ok1 G 71 (ar2 (s_f71 lp G)) :=
  .mk at_f71 <| sf2 hL (an := an_f71 lp G) (fun _ _ => obs (by kernel_rfl)) fun call a0 a1 H n k => by kernel_rfl
noncomputable def an_f77 (lp : LpT) (G : Roms) (call : CallT) (k : KV) : An := .n
theorem si_f77 {lp : LpT} (hL : LpOk lp) (G : Roms) : Ok1 G 77 (ar2 (s_f77 lp G)) :=
  .mk at_f77 <| sf2 hL (an := an_f77 lp G) (fun _ _ => obs (by kernel_rfl)) fun call a0 a1 H n k => by kernel_rfl
noncomputable def an_f78 (lp : LpT) (G : Roms) (call : CallT) (k : KV) : An := (.s .n (.j (fun R=>s_f78_j2 lp G call k (rg R q1)) (.s .n (.b (.l _ (s_f78_l29b lp G call k) (fun R H n=>(rg R q1, rg R q7, rg R q8, H, n)) fun ih29=>.n))) (.j (fun R=>s_f78_j3 lp G call k) (.s .n (.b (.l _ (s_f78_l7b lp G call k) (fun R H n=>(rg R q1, rg R q32, rg R q33, H, n)) fun ih7=>.n))) .n)))
theorem si_f78 {lp : LpT} (hL : LpOk lp) (G : Roms) : Ok1 G 78 (ar1 (s_f78 lp G)) :=
  .mk at_f78 <| sf1 hL (an := an_f78 lp G) (fun _ _ => obs (by kernel_rfl)) fun call a0 H n k => by kernel_rfl
noncomputable def an_f79 (lp : LpT) (G : Roms) (call : CallT) (k : KV) : An := (.s .n (.j (fun R=>s_f79_j1 lp G call k) (.s .n (.b (.l _ (s_f79_l3b lp G call k) (fun R H n=>(rg R q0, rg R q9, rg R q10, rg R q11, H, n)) fun ih3=>(.s .n (.s .n (.j (fun R=>s_f79_j5 lp G call k ih3 (rg R q0) (rg R q9) (rg R q10) (rg R q11)) .n .n)))))) .n))
theorem si_f79 {lp : LpT} (hL : LpOk lp) (G : Roms) : Ok1 G 79 (ar2 (s_f79 lp G)) :=
  .mk at_f79 <| sf2 hL (an := an_f79 lp G) (fun _ _ => obs (by kernel_rfl)) fun call a0 a1 H n k => by kernel_rfl
noncomputable def an_f80 (lp : LpT) (G : Roms) (call : CallT) (k : KV) : An := .n
theorem si_f80 {lp : LpT} (hL : LpOk lp) (G : Roms) : Ok1 G 80 (ar2 (s_f80 lp G)) :=
  .mk at_f80 <| sf2 hL (an := an_f80 lp G) (fun _ _ => obs (by kernel_rfl)) fun call a0 a1 H n k => by kernel_rfl
noncomputable def an_f84 (lp : LpT) (G : Roms) (call : CallT) (k : KV) : An := .n
theorem si_f84 {lp : LpT} (hL : LpOk lp) (G : Roms) : Ok1 G 84 (ar1 (s_f84 lp G)) :=
  .mk at_f84 <| sf1 hL (an := an_f84 lp G) (fun _ _ => obs (by kernel_rfl)) fun call a0 H n k => by kernel_rfl
noncomputable def an_f85 (lp : LpT) (G : Roms) (call : CallT) (k : KV) : An := (.s .n (.s .n (.j (fun R=>s_f85_j12 lp G call k (rg R q2) (rg R q3)) (.s .n (.b (.l _ (s_f85_l18b lp G call k) (fun R H n=>(rg R q2, rg R q3, rg R q14, rg R q15, rg R q16, H, n)) fun ih18=>.n))) .n)))
theorem si_f85 {lp : LpT} (hL : LpOk lp) (G : Roms) : Ok1 G 85 (ar1 (s_f85 lp G)) :=
  .mk at_f85 <| sf1 hL (an := an_f85 lp G) (fun _ _ => obs (by kernel_rfl)) fun call a0 H n k => by kernel_rfl
noncomputable def an_f86 (lp : LpT) (G : Roms) (call : CallT) (k : KV) : An := .n
theorem si_f86 {lp : LpT} (hL : LpOk lp) (G : Roms) : Ok1 G 86 (ar1 (s_f86 lp G)) :=
  .mk at_f86 <| sf1 hL (an := an_f86 lp G) (fun _ _ => obs (by kernel_rfl)) fun call a0 H n k => by kernel_rfl
noncomputable def an_f91 (lp : LpT) (G : Roms) (call : CallT) (k : KV) : An := (.s .n (.s .n (.j (fun R=>s_f91_j4 lp G call k) (.s .n (.b (.l _ (s_f91_l6b lp G call k) (fun R H n=>(rg R q1, rg R q2, rg R q15, rg R q16, rg R q17, H, n)) fun ih6=>.n))) .n)))
theorem si_f91 {lp : LpT} (hL : LpOk lp) (G : Roms) : Ok1 G 91 (ar3 (s_f91 lp G)) :=
  .mk at_f91 <| sf3 hL (an := an_f91 lp G) (fun _ _ => obs (by kernel_rfl)) fun call a0 a1 a2 H n k => by kernel_rfl
noncomputable def an_f92 (lp : LpT) (G : Roms) (call : CallT) (k : KV) : An := .n
theorem si_f92 {lp : LpT} (hL : LpOk lp) (G : Roms) : Ok1 G 92 (ar3 (s_f92 lp G)) :=
  .mk at_f92 <| sf3 hL (an := an_f92 lp G) (fun _ _ => obs (by kernel_rfl)) fun call a0 a1 a2 H n k => by kernel_rfl
noncomputable def an_f93 (lp : LpT) (G : Roms) (call : CallT) (k : KV) : An := (.s .n (.s .n (.s .n (.j (fun R=>s_f93_j6 lp G call k (rg R q0) (rg R q5) (rg R q6)) (.s .n (.b (.l _ (s_f93_l17b lp G call k) (fun R H n=>(rg R q0, rg R q5, rg R q6, rg R q15, rg R q16, rg R q17, H, n)) fun ih17=>.n))) .n))))
theorem si_f93 {lp : LpT} (hL : LpOk lp) (G : Roms) : Ok1 G 93 (ar2 (s_f93 lp G)) :=
  .mk at_f93 <| sf2 hL (an := an_f93 lp G) (fun _ _ => obs (by kernel_rfl)) fun call a0 a1 H n k => by kernel_rfl
noncomputable def an_f97 (lp : LpT) (G : Roms) (call : CallT) (k : KV) : An := (.s .n (.s .n (.s .n (.s .n (.b (.l _ (s_f97_l12b lp G call k) (fun R H n=>(rg R q3, rg R q4, rg R q5, H, n)) fun ih12=>.n))))))
theorem si_f97 {lp : LpT} (hL : LpOk lp) (G : Roms) : Ok1 G 97 (ar1 (s_f97 lp G)) :=
  .mk at_f97 <| sf1 hL (an := an_f97 lp G) (fun _ _ => obs (by kernel_rfl)) fun call a0 H n k => by kernel_rfl
noncomputable def an_f98 (lp : LpT) (G : Roms) (call : CallT) (k : KV) : An := (.s .n (.s .n (.s .n (.s .n (.j (fun R=>s_f98_j16 lp G call k (rg R q0) (rg R q2) (rg R q3)) .n (.s .n (.j (fun R=>s_f98_j19 lp G call k (rg R q0) (rg R q2) (rg R q3)) (.b (.l _ (s_f98_l34b lp G call k) (fun R H n=>(rg R q0, rg R q2, rg R q3, H, n)) fun ih34=>.n)) (.j (fun R=>s_f98_j20 lp G call k (rg R q2) (rg R q3)) .n .n))))))))
theorem si_f98 {lp : LpT} (hL : LpOk lp) (G : Roms) : Ok1 G 98 (ar1 (s_f98 lp G)) :=
  .mk at_f98 <| sf1 hL (an := an_f98 lp G) (fun _ _ => obs (by kernel_rfl)) fun call a0 H n k => by kernel_rfl
noncomputable def an_f99 (lp : LpT) (G : Roms) (call : CallT) (k : KV) : An := .n
theorem si_f99 {lp : LpT} (hL : LpOk lp) (G : Roms) : Ok1 G 99 (ar1 (s_f99 lp G)) :=
  .mk at_f99 <| sf1 hL (an := an_f99 lp G) (fun _ _ => obs (by kernel_rfl)) fun call a0 H n k => by kernel_rfl
noncomputable def an_f100 (lp : LpT) (G : Roms) (call : CallT) (k : KV) : An := (.s .n (.j (fun R=>s_f100_j3 lp G call k (rg R q4)) (.s .n (.b (.l _ (s_f100_l9b lp G call k) (fun R H n=>(rg R q1, rg R q4, rg R q9, rg R q10, rg R q11, H, n)) fun ih9=>.n))) .n))
theorem si_f100 {lp : LpT} (hL : LpOk lp) (G : Roms) : Ok1 G 100 (ar2 (s_f100 lp G)) :=
  .mk at_f100 <| sf2 hL (an := an_f100 lp G) (fun _ _ => obs (by kernel_rfl)) fun call a0 a1 H n k => by kernel_rfl
noncomputable def an_f101 (lp : LpT) (G : Roms) (call : CallT) (k : KV) : An := (.s .n (.j (fun R=>s_f101_j1 lp G call k) (.s .n (.b (.l _ (s_f101_l3b lp G call k) (fun R H n=>(rg R q0, rg R q1, rg R q7, rg R q8, H, n)) fun ih3=>.n))) .n))
theorem si_f101 {lp : LpT} (hL : LpOk lp) (G : Roms) : Ok1 G 101 (ar2 (s_f101 lp G)) :=
  .mk at_f101 <| sf2 hL (an := an_f101 lp G) (fun _ _ => obs (by kernel_rfl)) fun call a0 a1 H n k => by kernel_rfl
noncomputable def an_f102 (lp : LpT) (G : Roms) (call : CallT) (k : KV) : An := (.s .n (.j (fun R=>s_f102_j2 lp G call k (rg R q4)) .n .n))
theorem si_f102 {lp : LpT} (hL : LpOk lp) (G : Roms) : Ok1 G 102 (ar2 (s_f102 lp G)) :=
  .mk at_f102 <| sf2 hL (an := an_f102 lp G) (fun _ _ => obs (by kernel_rfl)) fun call a0 a1 H n k => by kernel_rfl
noncomputable def an_f103 (lp : LpT) (G : Roms) (call : CallT) (k : KV) : An := .n
theorem si_f103 {lp : LpT} (hL : LpOk lp) (G : Roms) : Ok1 G 103 (ar1 (s_f103 lp G)) :=
  .mk at_f103 <| sf1 hL (an := an_f103 lp G) (fun _ _ => obs (by kernel_rfl)) fun call a0 H n k => by kernel_rfl
noncomputable def an_f104 (lp : LpT) (G : Roms) (call : CallT) (k : KV) : An := (.s .n (.b (.l _ (s_f104_l2b lp G call k) (fun R H n=>(rg R q0, rg R q6, rg R q7, rg R q8, H, n)) fun ih2=>.n)))
theorem si_f104 {lp : LpT} (hL : LpOk lp) (G : Roms) : Ok1 G 104 (ar2 (s_f104 lp G)) :=
  .mk at_f104 <| sf2 hL (an := an_f104 lp G) (fun _ _ => obs (by kernel_rfl)) fun call a0 a1 H n k => by kernel_rfl
noncomputable def an_f108 (lp : LpT) (G : Roms) (call : CallT) (k : KV) : An := (.s .n (.j (fun R=>s_f108_j3 lp G call k (rg R q4)) (.s .n (.b (.l _ (s_f108_l9b lp G call k) (fun R H n=>(rg R q1, rg R q4, rg R q9, rg R q10, rg R q11, H, n)) fun ih9=>.n))) .n))
theorem si_f108 {lp : LpT} (hL : LpOk lp) (G : Roms) : Ok1 G 108 (ar2 (s_f108 lp G)) :=
  .mk at_f108 <| sf2 hL (an := an_f108 lp G) (fun _ _ => obs (by kernel_rfl)) fun call a0 a1 H n k => by kernel_rfl
noncomputable def an_f110 (lp : LpT) (G : Roms) (call : CallT) (k : KV) : An := .n
theorem si_f110 {lp : LpT} (hL : LpOk lp) (G : Roms) : Ok1 G 110 (ar2 (s_f110 lp G)) :=
  .mk at_f110 <| sf2 hL (an := an_f110 lp G) (fun _ _ => obs (by kernel_rfl)) fun call a0 a1 H n k => by kernel_rfl
noncomputable def an_f114 (lp : LpT) (G : Roms) (call : CallT) (k : KV) : An := .n
theorem si_f114 {lp : LpT} (hL : LpOk lp) (G : Roms) : Ok1 G 114 (ar1 (s_f114 lp G)) :=
  .mk at_f114 <| sf1 hL (an := an_f114 lp G) (fun _ _ => obs (by kernel_rfl)) fun call a0 H n k => by kernel_rfl
noncomputable def an_f115 (lp : LpT) (G : Roms) (call : CallT) (k : KV) : An := .n
theorem si_f115 {lp : LpT} (hL : LpOk lp) (G : Roms) : Ok1 G 115 (ar1 (s_f115 lp G)) :=
  .mk at_f115 <| sf1 hL (an := an_f115 lp G) (fun _ _ => obs (by kernel_rfl)) fun call a0 H n k => by kernel_rfl
noncomputable def an_f122 (lp : LpT) (G : Roms) (call : CallT) (k : KV) : An := (.s .n (.j (fun R=>s_f122_j1 lp G call k) (.s .n (.b (.l _ (s_f122_l3b lp G call k) (fun R H n=>(rg R q0, rg R q1, rg R q7, rg R q8, H, n)) fun ih3=>.n))) .n))
theorem si_f122 {lp : LpT} (hL : LpOk lp) (G : Roms) : Ok1 G 122 (ar2 (s_f122 lp G)) :=
  .mk at_f122 <| sf2 hL (an := an_f122 lp G) (fun _ _ => obs (by kernel_rfl)) fun call a0 a1 H n k => by kernel_rfl
noncomputable def an_f123 (lp : LpT) (G : Roms) (call : CallT) (k : KV) : An := (.s .n (.s .n (.j (fun R=>s_f123_j4 lp G call k) (.s .n (.b (.l _ (s_f123_l6b lp G call k) (fun R H n=>(rg R q0, rg R q1, rg R q12, rg R q13, H, n)) fun ih6=>.n))) .n)))
theorem si_f123 {lp : LpT} (hL : LpOk lp) (G : Roms) : Ok1 G 123 (ar2 (s_f123 lp G)) :=
  .mk at_f123 <| sf2 hL (an := an_f123 lp G) (fun _ _ => obs (by kernel_rfl)) fun call a0 a1 H n k => by kernel_rfl
noncomputable def an_f132 (lp : LpT) (G : Roms) (call : CallT) (k : KV) : An := .n
theorem si_f132 {lp : LpT} (hL : LpOk lp) (G : Roms) : Ok1 G 132 (ar2 (s_f132 lp G)) :=
  .mk at_f132 <| sf2 hL (an := an_f132 lp G) (fun _ _ => obs (by kernel_rfl)) fun call a0 a1 H n k => by kernel_rfl
noncomputable def an_f133 (lp : LpT) (G : Roms) (call : CallT) (k : KV) : An := .n
theorem si_f133 {lp : LpT} (hL : LpOk lp) (G : Roms) : Ok1 G 133 (ar2 (s_f133 lp G)) :=
  .mk at_f133 <| sf2 hL (an := an_f133 lp G) (fun _ _ => obs (by kernel_rfl)) fun call a0 a1 H n k => by kernel_rfl
noncomputable def an_f134 (lp : LpT) (G : Roms) (call : CallT) (k : KV) : An := .n
theorem si_f134 {lp : LpT} (hL : LpOk lp) (G : Roms) : Ok1 G 134 (ar2 (s_f134 lp G)) :=
  .mk at_f134 <| sf2 hL (an := an_f134 lp G) (fun _ _ => obs (by kernel_rfl)) fun call a0 a1 H n k => by kernel_rfl
noncomputable def an_f135 (lp : LpT) (G : Roms) (call : CallT) (k : KV) : An := .n
theorem si_f135 {lp : LpT} (hL : LpOk lp) (G : Roms) : Ok1 G 135 (ar2 (s_f135 lp G)) :=
  .mk at_f135 <| sf2 hL (an := an_f135 lp G) (fun _ _ => obs (by kernel_rfl)) fun call a0 a1 H n k => by kernel_rfl
noncomputable def an_f141 (lp : LpT) (G : Roms) (call : CallT) (k : KV) : An := .n
theorem si_f141 {lp : LpT} (hL : LpOk lp) (G : Roms) : Ok1 G 141 (ar0 (s_f141 lp G)) :=
  .mk at_f141 <| sf0 hL (an := an_f141 lp G) (fun _ _ => obs (by kernel_rfl)) fun call  H n k => by kernel_rfl
noncomputable def an_f142 (lp : LpT) (G : Roms) (call : CallT) (k : KV) : An := .n
theorem si_f142 {lp : LpT} (hL : LpOk lp) (G : Roms) : Ok1 G 142 (ar1 (s_f142 lp G)) :=
  .mk at_f142 <| sf1 hL (an := an_f142 lp G) (fun _ _ => obs (by kernel_rfl)) fun call a0 H n k => by kernel_rfl
noncomputable def an_f143 (lp : LpT) (G : Roms) (call : CallT) (k : KV) : An := .n
theorem si_f143 {lp : LpT} (hL : LpOk lp) (G : Roms) : Ok1 G 143 (ar1 (s_f143 lp G)) :=
  .mk at_f143 <| sf1 hL (an := an_f143 lp G) (fun _ _ => obs (by kernel_rfl)) fun call a0 H n k => by kernel_rfl
noncomputable def an_f145 (lp : LpT) (G : Roms) (call : CallT) (k : KV) : An := (.s .n (.j (fun R=>s_f145_j2 lp G call k (rg R q4)) (.s .n (.b (.l _ (s_f145_l9b lp G call k) (fun R H n=>(rg R q1, rg R q4, rg R q11, rg R q12, rg R q13, H, n)) fun ih9=>.n))) .n))
theorem si_f145 {lp : LpT} (hL : LpOk lp) (G : Roms) : Ok1 G 145 (ar2 (s_f145 lp G)) :=
  .mk at_f145 <| sf2 hL (an := an_f145 lp G) (fun _ _ => obs (by kernel_rfl)) fun call a0 a1 H n k => by kernel_rfl
noncomputable def an_f146 (lp : LpT) (G : Roms) (call : CallT) (k : KV) : An := (.s .n (.j (fun R=>s_f146_j2 lp G call k (rg R q0)) .n .n))
theorem si_f146 {lp : LpT} (hL : LpOk lp) (G : Roms) : Ok1 G 146 (ar4 (s_f146 lp G)) :=
  .mk at_f146 <| sf4 hL (an := an_f146 lp G) (fun _ _ => obs (by kernel_rfl)) fun call a0 a1 a2 a3 H n k => by kernel_rfl
noncomputable def an_f147 (lp : LpT) (G : Roms) (call : CallT) (k : KV) : An := (.s .n (.s .n (.s .n (.s .n (.j (fun R=>s_f147_j34 lp G call k (rg R q0) (rg R q3) (rg R q4)) (.s .n (.b (.l _ (s_f147_l130b lp G call k) (fun R H n=>(rg R q0, rg R q3, rg R q4, rg R q39, rg R q40, rg R q41, H, n)) fun ih130=>.n))) (.s .n (.s .n (.j (fun R=>s_f147_j48 lp G call k (rg R q3) (rg R q4)) (.s .n (.b (.s .n (.c .n (.s .n (.c .n (.j (fun R=>s_f147_j91 lp G call k (rg R q0) (rg R q3) (rg R q4) (rg R q7) (rg R q66) (rg R q112)) .n .n))))))) .n))))))))
theorem si_f147 {lp : LpT} (hL : LpOk lp) (G : Roms) : Ok1 G 147 (ar2 (s_f147 lp G)) :=
  .mk at_f147 <| sf2 hL (an := an_f147 lp G) (fun _ _ => obs (by kernel_rfl)) fun call a0 a1 H n k => by kernel_rfl
noncomputable def an_f153 (lp : LpT) (G : Roms) (call : CallT) (k : KV) : An := (.b (.l _ (s_f153_l1b lp G call k) (fun R H n=>(rg R q0, H, n)) fun ih1=>(.s .n (.b (.s .n (.b (.s .n (.c .n (.s .n (.c (.s .n (.j (fun R=>s_f153_j44 lp G call k ih1 (rg R q0) (rg R q3)) .n .n)) .n))))))))))
theorem si_f153 {lp : LpT} (hL : LpOk lp) (G : Roms) : Ok1 G 153 (ar1 (s_f153 lp G)) :=
  .mk at_f153 <| sf1 hL (an := an_f153 lp G) (fun _ _ => obs (by kernel_rfl)) fun call a0 H n k => by kernel_rfl
noncomputable def an_f154 (lp : LpT) (G : Roms) (call : CallT) (k : KV) : An := (.s .n (.s .n (.s .n (.s .n (.j (fun R=>s_f154_j25 lp G call k (rg R q0) (rg R q2) (rg R q4)) (.b (.s .n (.c .n (.s .n (.c .n (.s .n (.c .n (.s .n (.b (.l _ (s_f154_l81b lp G call k) (fun R H n=>(rg R q0, rg R q2, rg R q4, rg R q34, rg R q35, H, n)) fun ih81=>.n)))))))))) .n)))))
theorem si_f154 {lp : LpT} (hL : LpOk lp) (G : Roms) : Ok1 G 154 (ar1 (s_f154 lp G)) :=
  .mk at_f154 <| sf1 hL (an := an_f154 lp G) (fun _ _ => obs (by kernel_rfl)) fun call a0 H n k => by kernel_rfl
noncomputable def an_f155 (lp : LpT) (G : Roms) (call : CallT) (k : KV) : An := (.s .n (.b (.l _ (s_f155_l2b lp G call k) (fun R H n=>(rg R q0, rg R q6, rg R q7, rg R q8, H, n)) fun ih2=>(.s .n (.s .n (.j (fun R=>s_f155_j4 lp G call k ih2 (rg R q0) (rg R q6) (rg R q7) (rg R q8)) .n .n))))))
theorem si_f155 {lp : LpT} (hL : LpOk lp) (G : Roms) : Ok1 G 155 (ar2 (s_f155 lp G)) :=
  .mk at_f155 <| sf2 hL (an := an_f155 lp G) (fun _ _ => obs (by kernel_rfl)) fun call a0 a1 H n k => by kernel_rfl
noncomputable def an_f156 (lp : LpT) (G : Roms) (call : CallT) (k : KV) : An := .n
theorem si_f156 {lp : LpT} (hL : LpOk lp) (G : Roms) : Ok1 G 156 (ar2 (s_f156 lp G)) :=
  .mk at_f156 <| sf2 hL (an := an_f156 lp G) (fun _ _ => obs (by kernel_rfl)) fun call a0 a1 H n k => by kernel_rfl
noncomputable def an_f157 (lp : LpT) (G : Roms) (call : CallT) (k : KV) : An := .n
theorem si_f157 {lp : LpT} (hL : LpOk lp) (G : Roms) : Ok1 G 157 (ar2 (s_f157 lp G)) :=
  .mk at_f157 <| sf2 hL (an := an_f157 lp G) (fun _ _ => obs (by kernel_rfl)) fun call a0 a1 H n k => by kernel_rfl
noncomputable def an_f158 (lp : LpT) (G : Roms) (call : CallT) (k : KV) : An := (.s .n (.s .n (.j (fun R=>s_f158_j5 lp G call k (rg R q2) (rg R q3)) .n .n)))
theorem si_f158 {lp : LpT} (hL : LpOk lp) (G : Roms) : Ok1 G 158 (ar1 (s_f158 lp G)) :=
  .mk at_f158 <| sf1 hL (an := an_f158 lp G) (fun _ _ => obs (by kernel_rfl)) fun call a0 H n k => by kernel_rfl
noncomputable def an_f159 (lp : LpT) (G : Roms) (call : CallT) (k : KV) : An := .n
theorem si_f159 {lp : LpT} (hL : LpOk lp) (G : Roms) : Ok1 G 159 (ar2 (s_f159 lp G)) :=
  .mk at_f159 <| sf2 hL (an := an_f159 lp G) (fun _ _ => obs (by kernel_rfl)) fun call a0 a1 H n k => by kernel_rfl
noncomputable def an_f160 (lp : LpT) (G : Roms) (call : CallT) (k : KV) : An := (.s .n (.j (fun R=>s_f160_j1 lp G call k) (.s .n (.b (.l _ (s_f160_l3b lp G call k) (fun R H n=>(rg R q0, rg R q7, rg R q8, rg R q9, H, n)) fun ih3=>.n))) .n))
theorem si_f160 {lp : LpT} (hL : LpOk lp) (G : Roms) : Ok1 G 160 (ar2 (s_f160 lp G)) :=
  .mk at_f160 <| sf2 hL (an := an_f160 lp G) (fun _ _ => obs (by kernel_rfl)) fun call a0 a1 H n k => by kernel_rfl
noncomputable def an_f161 (lp : LpT) (G : Roms) (call : CallT) (k : KV) : An := (.s .n (.s .n (.s .n (.s .n (.s .n (.s .n (.s .n (.j (fun R=>s_f161_j25 lp G call k (rg R q0) (rg R q2) (rg R q4)) (.b (.l _ (s_f161_l31b lp G call k) (fun R H n=>(rg R q0, rg R q2, rg R q4, H, n)) fun ih31=>(.s .n (.b (.j (fun R=>s_f161_j37 lp G call k ih31 (rg R q0) (rg R q2) (rg R q4)) .n .n))))) .n))))))))
theorem si_f161 {lp : LpT} (hL : LpOk lp) (G : Roms) : Ok1 G 161 (ar1 (s_f161 lp G)) :=
  .mk at_f161 <| sf1 hL (an := an_f161 lp G) (fun _ _ => obs (by kernel_rfl)) fun call a0 H n k => by kernel_rfl
noncomputable def an_f162 (lp : LpT) (G : Roms) (call : CallT) (k : KV) : An := .n
theorem si_f162 {lp : LpT} (hL : LpOk lp) (G : Roms) : Ok1 G 162 (ar2 (s_f162 lp G)) :=
  .mk at_f162 <| sf2 hL (an := an_f162 lp G) (fun _ _ => obs (by kernel_rfl)) fun call a0 a1 H n k => by kernel_rfl
noncomputable def an_f163 (lp : LpT) (G : Roms) (call : CallT) (k : KV) : An := (.s .n (.j (fun R=>s_f163_j1 lp G call k (rg R q0)) .n .n))
theorem si_f163 {lp : LpT} (hL : LpOk lp) (G : Roms) : Ok1 G 163 (ar1 (s_f163 lp G)) :=
  .mk at_f163 <| sf1 hL (an := an_f163 lp G) (fun _ _ => obs (by kernel_rfl)) fun call a0 H n k => by kernel_rfl
noncomputable def an_f164 (lp : LpT) (G : Roms) (call : CallT) (k : KV) : An := (.s .n (.j (fun R=>s_f164_j2 lp G call k (rg R q0) (rg R q3)) (.s .n (.b (.s .n (.c .n (.s .n (.c (.s (.b (.l _ (s_f164_l75b lp G call k) (fun R H n=>(rg R q0, rg R q3, H, n)) fun ih75=>.n)) .n) .n)))))) .n))
theorem si_f164 {lp : LpT} (hL : LpOk lp) (G : Roms) : Ok1 G 164 (ar2 (s_f164 lp G)) :=
  .mk at_f164 <| sf2 hL (an := an_f164 lp G) (fun _ _ => obs (by kernel_rfl)) fun call a0 a1 H n k => by kernel_rfl
noncomputable def an_f178 (lp : LpT) (G : Roms) (call : CallT) (k : KV) : An := (.s .n (.s .n (.j (fun R=>s_f178_j1 lp G call k (rg R q0) (rg R q1) (rg R q2) (rg R q6) (rg R q7)) (.b (.l _ (s_f178_l18b lp G call k) (fun R H n=>(rg R q0, rg R q1, rg R q2, rg R q6, rg R q7, rg R q8, H, n)) fun ih18=>.n)) (.s .n (.b (.l _ (s_f178_l3b lp G call k) (fun R H n=>(rg R q0, rg R q1, rg R q2, rg R q6, H, n)) fun ih3=>(.s .n (.b (.s .n (.j (fun R=>s_f178_j6 lp G call k ih3 (rg R q0) (rg R q1) (rg R q2) (rg R q6) (rg R q7)) (.b (.l _ (s_f178_l12b lp G call k ih3) (fun R H n=>(rg R q0, rg R q1, rg R q2, rg R q6, rg R q7, rg R q8, H, n)) fun ih12=>.n)) (.j (fun R=>s_f178_j7 lp G call k ih3 (rg R q0) (rg R q1) (rg R q2) (rg R q6)) .n .n)))))))))))
theorem si_f178 {lp : LpT} (hL : LpOk lp) (G : Roms) : Ok1 G 178 (ar3 (s_f178 lp G)) :=
  .mk at_f178 <| sf3 hL (an := an_f178 lp G) (fun _ _ => obs (by kernel_rfl)) fun call a0 a1 a2 H n k => by kernel_rfl
noncomputable def an_f179 (lp : LpT) (G : Roms) (call : CallT) (k : KV) : An := (.s .n (.s .n (.j (fun R=>s_f179_j1 lp G call k (rg R q0) (rg R q1) (rg R q2) (rg R q6) (rg R q7)) (.b (.l _ (s_f179_l18b lp G call k) (fun R H n=>(rg R q0, rg R q1, rg R q2, rg R q6, rg R q7, rg R q8, H, n)) fun ih18=>.n)) (.s .n (.b (.l _ (s_f179_l3b lp G call k) (fun R H n=>(rg R q0, rg R q1, rg R q2, rg R q6, H, n)) fun ih3=>(.s .n (.b (.s .n (.j (fun R=>s_f179_j6 lp G call k ih3 (rg R q0) (rg R q1) (rg R q2) (rg R q6) (rg R q7)) (.b (.l _ (s_f179_l12b lp G call k ih3) (fun R H n=>(rg R q0, rg R q1, rg R q2, rg R q6, rg R q7, rg R q8, H, n)) fun ih12=>.n)) (.j (fun R=>s_f179_j7 lp G call k ih3 (rg R q0) (rg R q1) (rg R q2) (rg R q6)) .n .n)))))))))))
theorem si_f179 {lp : LpT} (hL : LpOk lp) (G : Roms) : Ok1 G 179 (ar3 (s_f179 lp G)) :=
  .mk at_f179 <| sf3 hL (an := an_f179 lp G) (fun _ _ => obs (by kernel_rfl)) fun call a0 a1 a2 H n k => by kernel_rfl
noncomputable def an_f180 (lp : LpT) (G : Roms) (call : CallT) (k : KV) : An := .n
theorem si_f180 {lp : LpT} (hL : LpOk lp) (G : Roms) : Ok1 G 180 (ar3 (s_f180 lp G)) :=
  .mk at_f180 <| sf3 hL (an := an_f180 lp G) (fun _ _ => obs (by kernel_rfl)) fun call a0 a1 a2 H n k => by kernel_rfl
noncomputable def an_f181 (lp : LpT) (G : Roms) (call : CallT) (k : KV) : An := .n
theorem si_f181 {lp : LpT} (hL : LpOk lp) (G : Roms) : Ok1 G 181 (ar3 (s_f181 lp G)) :=
  .mk at_f181 <| sf3 hL (an := an_f181 lp G) (fun _ _ => obs (by kernel_rfl)) fun call a0 a1 a2 H n k => by kernel_rfl
noncomputable def an_f182 (lp : LpT) (G : Roms) (call : CallT) (k : KV) : An := .n
theorem si_f182 {lp : LpT} (hL : LpOk lp) (G : Roms) : Ok1 G 182 (ar1 (s_f182 lp G)) :=
  .mk at_f182 <| sf1 hL (an := an_f182 lp G) (fun _ _ => obs (by kernel_rfl)) fun call a0 H n k => by kernel_rfl
noncomputable def an_f183 (lp : LpT) (G : Roms) (call : CallT) (k : KV) : An := (.s .n (.s .n (.j (fun R=>s_f183_j7 lp G call k (rg R q3) (rg R q4)) (.s .n (.b (.s .n (.c .n (.j (fun R=>s_f183_j16 lp G call k (rg R q0) (rg R q3) (rg R q4) (rg R q12) (rg R q19)) .n (.c .n (.s .n (.c .n (.s .n (.c .n (.s .n (.c .n (.j (fun R=>s_f183_j56 lp G call k (rg R q0) (rg R q3) (rg R q4) (rg R q12) (rg R q65)) .n (.c .n (.s .n (.c .n (.s .n (.c (.j (fun R=>s_f183_j74 lp G call k (rg R q3) (rg R q4)) .n .n) (.s .n (.c (.j (fun R=>s_f183_j96 lp G call k (rg R q3) (rg R q4)) .n .n) .n)))))))))))))))))))) .n)))
theorem si_f183 {lp : LpT} (hL : LpOk lp) (G : Roms) : Ok1 G 183 (ar2 (s_f183 lp G)) :=
  .mk at_f183 <| sf2 hL (an := an_f183 lp G) (fun _ _ => obs (by kernel_rfl)) fun call a0 a1 H n k => by kernel_rfl
noncomputable def an_f184 (lp : LpT) (G : Roms) (call : CallT) (k : KV) : An := (.s .n (.j (fun R=>s_f184_j2 lp G call k) (.s .n (.b (.l _ (s_f184_l4b lp G call k) (fun R H n=>(rg R q0, rg R q5, rg R q9, rg R q10, rg R q11, H, n)) fun ih4=>.n))) .n))
theorem si_f184 {lp : LpT} (hL : LpOk lp) (G : Roms) : Ok1 G 184 (ar3 (s_f184 lp G)) :=
  .mk at_f184 <| sf3 hL (an := an_f184 lp G) (fun _ _ => obs (by kernel_rfl)) fun call a0 a1 a2 H n k => by kernel_rfl
noncomputable def an_f191 (lp : LpT) (G : Roms) (call : CallT) (k : KV) : An := (.s .n (.b (.l _ (s_f191_l1b lp G call k) (fun R H n=>(rg R q0, rg R q4, rg R q5, H, n)) fun ih1=>(.s .n (.s .n (.s (.b (.s .n (.j (fun R=>s_f191_j12 lp G call k ih1 (rg R q0) (rg R q4) (rg R q5)) .n .n))) .n))))))
theorem si_f191 {lp : LpT} (hL : LpOk lp) (G : Roms) : Ok1 G 191 (ar2 (s_f191 lp G)) :=
  .mk at_f191 <| sf2 hL (an := an_f191 lp G) (fun _ _ => obs (by kernel_rfl)) fun call a0 a1 H n k => by kernel_rfl
noncomputable def an_f192 (lp : LpT) (G : Roms) (call : CallT) (k : KV) : An := .n
theorem si_f192 {lp : LpT} (hL : LpOk lp) (G : Roms) : Ok1 G 192 (ar2 (s_f192 lp G)) :=
  .mk at_f192 <| sf2 hL (an := an_f192 lp G) (fun _ _ => obs (by kernel_rfl)) fun call a0 a1 H n k => by kernel_rfl
noncomputable def an_f193 (lp : LpT) (G : Roms) (call : CallT) (k : KV) : An := .n
theorem si_f193 {lp : LpT} (hL : LpOk lp) (G : Roms) : Ok1 G 193 (ar2 (s_f193 lp G)) :=
  .mk at_f193 <| sf2 hL (an := an_f193 lp G) (fun _ _ => obs (by kernel_rfl)) fun call a0 a1 H n k => by kernel_rfl
noncomputable def an_f194 (lp : LpT) (G : Roms) (call : CallT) (k : KV) : An := .n
theorem si_f194 {lp : LpT} (hL : LpOk lp) (G : Roms) : Ok1 G 194 (ar1 (s_f194 lp G)) :=
  .mk at_f194 <| sf1 hL (an := an_f194 lp G) (fun _ _ => obs (by kernel_rfl)) fun call a0 H n k => by kernel_rfl
noncomputable def an_f195 (lp : LpT) (G : Roms) (call : CallT) (k : KV) : An := (.s .n (.s .n (.j (fun R=>s_f195_j1 lp G call k (rg R q0) (rg R q5)) (.b (.l _ (s_f195_l13b lp G call k) (fun R H n=>(rg R q0, rg R q1, rg R q5, H, n)) fun ih13=>.n)) .n)))
theorem si_f195 {lp : LpT} (hL : LpOk lp) (G : Roms) : Ok1 G 195 (ar2 (s_f195 lp G)) :=
  .mk at_f195 <| sf2 hL (an := an_f195 lp G) (fun _ _ => obs (by kernel_rfl)) fun call a0 a1 H n k => by kernel_rfl
noncomputable def an_f196 (lp : LpT) (G : Roms) (call : CallT) (k : KV) : An := .n
theorem si_f196 {lp : LpT} (hL : LpOk lp) (G : Roms) : Ok1 G 196 (ar1 (s_f196 lp G)) :=
  .mk at_f196 <| sf1 hL (an := an_f196 lp G) (fun _ _ => obs (by kernel_rfl)) fun call a0 H n k => by kernel_rfl
noncomputable def an_f197 (lp : LpT) (G : Roms) (call : CallT) (k : KV) : An := .n
theorem si_f197 {lp : LpT} (hL : LpOk lp) (G : Roms) : Ok1 G 197 (ar1 (s_f197 lp G)) :=
  .mk at_f197 <| sf1 hL (an := an_f197 lp G) (fun _ _ => obs (by kernel_rfl)) fun call a0 H n k => by kernel_rfl
noncomputable def an_f198 (lp : LpT) (G : Roms) (call : CallT) (k : KV) : An := (.s .n (.s (.s .n (.b (.j (fun R=>s_f198_j1 lp G call k (rg R q4)) .n .n))) .n))
theorem si_f198 {lp : LpT} (hL : LpOk lp) (G : Roms) : Ok1 G 198 (ar1 (s_f198 lp G)) :=
  .mk at_f198 <| sf1 hL (an := an_f198 lp G) (fun _ _ => obs (by kernel_rfl)) fun call a0 H n k => by kernel_rfl
noncomputable def an_f199 (lp : LpT) (G : Roms) (call : CallT) (k : KV) : An := .n
theorem si_f199 {lp : LpT} (hL : LpOk lp) (G : Roms) : Ok1 G 199 (ar1 (s_f199 lp G)) :=
  .mk at_f199 <| sf1 hL (an := an_f199 lp G) (fun _ _ => obs (by kernel_rfl)) fun call a0 H n k => by kernel_rfl
noncomputable def an_f200 (lp : LpT) (G : Roms) (call : CallT) (k : KV) : An := (.s .n (.s .n (.j (fun R=>s_f200_j1 lp G call k (rg R q4)) (.s .n (.b (.l _ (s_f200_l4b lp G call k) (fun R H n=>(rg R q4, rg R q8, rg R q9, rg R q10, H, n)) fun ih4=>.n))) .n)))
theorem si_f200 {lp : LpT} (hL : LpOk lp) (G : Roms) : Ok1 G 200 (ar1 (s_f200 lp G)) :=
  .mk at_f200 <| sf1 hL (an := an_f200 lp G) (fun _ _ => obs (by kernel_rfl)) fun call a0 H n k => by kernel_rfl
noncomputable def an_f201 (lp : LpT) (G : Roms) (call : CallT) (k : KV) : An := (.s .n (.s .n (.j (fun R=>s_f201_j9 lp G call k (rg R q2) (rg R q3)) .n .n)))
theorem si_f201 {lp : LpT} (hL : LpOk lp) (G : Roms) : Ok1 G 201 (ar1 (s_f201 lp G)) :=
  .mk at_f201 <| sf1 hL (an := an_f201 lp G) (fun _ _ => obs (by kernel_rfl)) fun call a0 H n k => by kernel_rfl
noncomputable def an_f202 (lp : LpT) (G : Roms) (call : CallT) (k : KV) : An := .n
theorem si_f202 {lp : LpT} (hL : LpOk lp) (G : Roms) : Ok1 G 202 (ar1 (s_f202 lp G)) :=
  .mk at_f202 <| sf1 hL (an := an_f202 lp G) (fun _ _ => obs (by kernel_rfl)) fun call a0 H n k => by kernel_rfl
noncomputable def an_f203 (lp : LpT) (G : Roms) (call : CallT) (k : KV) : An := (.s .n (.s .n (.s .n (.s .n (.j (fun R=>s_f203_j5 lp G call k (rg R q3) (rg R q22)) (.b (.l _ (s_f203_l6b lp G call k) (fun R H n=>(rg R q0, rg R q3, rg R q22, H, n)) fun ih6=>.n)) .n)))))
theorem si_f203 {lp : LpT} (hL : LpOk lp) (G : Roms) : Ok1 G 203 (ar1 (s_f203 lp G)) :=
  .mk at_f203 <| sf1 hL (an := an_f203 lp G) (fun _ _ => obs (by kernel_rfl)) fun call a0 H n k => by kernel_rfl
noncomputable def an_f204 (lp : LpT) (G : Roms) (call : CallT) (k : KV) : An := (.s .n (.s .n (.j (fun R=>s_f204_j6 lp G call k (rg R q0) (rg R q4) (rg R q5) (rg R q6)) .n .n)))
theorem si_f204 {lp : LpT} (hL : LpOk lp) (G : Roms) : Ok1 G 204 (ar3 (s_f204 lp G)) :=
  .mk at_f204 <| sf3 hL (an := an_f204 lp G) (fun _ _ => obs (by kernel_rfl)) fun call a0 a1 a2 H n k => by kernel_rfl
noncomputable def an_f205 (lp : LpT) (G : Roms) (call : CallT) (k : KV) : An := (.s .n (.s .n (.s (.s .n (.b (.s .n (.c .n (.s .n (.c .n (.s .n (.c .n (.s .n (.c .n (.s .n (.c .n (.j (fun R=>s_f205_j43 lp G call k (rg R q0) (rg R q3) (rg R q4) (rg R q50)) .n .n))))))))))))) .n)))
theorem si_f205 {lp : LpT} (hL : LpOk lp) (G : Roms) : Ok1 G 205 (ar2 (s_f205 lp G)) :=
  .mk at_f205 <| sf2 hL (an := an_f205 lp G) (fun _ _ => obs (by kernel_rfl)) fun call a0 a1 H n k => by kernel_rfl
noncomputable def an_f214 (lp : LpT) (G : Roms) (call : CallT) (k : KV) : An := (.s .n (.b (.l _ (s_f214_l2b lp G call k) (fun R H n=>(rg R q0, rg R q1, rg R q2, rg R q3, rg R q8, H, n)) fun ih2=>(.s .n (.j (fun R=>s_f214_j4 lp G call k ih2 (rg R q0) (rg R q1) (rg R q2) (rg R q3) (rg R q8)) (.b (.s .n (.b (.l _ (s_f214_l6b lp G call k ih2) (fun R H n=>(rg R q0, rg R q1, rg R q2, rg R q3, rg R q8, rg R q9, H, n)) fun ih6=>.n)))) .n)))))
theorem si_f214 {lp : LpT} (hL : LpOk lp) (G : Roms) : Ok1 G 214 (ar4 (s_f214 lp G)) :=
  .mk at_f214 <| sf4 hL (an := an_f214 lp G) (fun _ _ => obs (by kernel_rfl)) fun call a0 a1 a2 a3 H n k => by kernel_rfl
noncomputable def an_f215 (lp : LpT) (G : Roms) (call : CallT) (k : KV) : An := (.j (fun R=>s_f215_j1 lp G call k (rg R q0) (rg R q1) (rg R q2) (rg R q3) (rg R q4)) (.s .n (.c (.s .n (.s .n (.j (fun R=>s_f215_j81 lp G call k (rg R q0) (rg R q1) (rg R q10)) (.b (.l _ (s_f215_l96b lp G call k) (fun R H n=>(rg R q0, rg R q1, rg R q4, rg R q10, rg R q11, H, n)) fun ih96=>.n)) (.s (.s .n (.b (.l _ (s_f215_l82b lp G call k) (fun R H n=>(rg R q0, rg R q10, rg R q13, H, n)) fun ih82=>.n))) .n)))) .n)) (.j (fun R=>s_f215_j2 lp G call k (rg R q0) (rg R q1) (rg R q2) (rg R q3) (rg R q4)) (.s .n (.c (.s .n (.s .n (.j (fun R=>s_f215_j51 lp G call k (rg R q0) (rg R q2) (rg R q14)) (.b (.l _ (s_f215_l65b lp G call k) (fun R H n=>(rg R q0, rg R q2, rg R q4, rg R q14, rg R q15, H, n)) fun ih65=>.n)) (.s (.s .n (.b (.l _ (s_f215_l52b lp G call k) (fun R H n=>(rg R q0, rg R q14, rg R q17, H, n)) fun ih52=>.n))) .n)))) .n)) (.s .n (.s .n (.s .n (.j (fun R=>s_f215_j8 lp G call k (rg R q0) (rg R q1) (rg R q2) (rg R q3) (rg R q4) (rg R q18) (rg R q19) (rg R q20) (rg R q21)) .n (.s .n (.j (fun R=>s_f215_j10 lp G call k (rg R q0) (rg R q1) (rg R q2) (rg R q3) (rg R q4) (rg R q18) (rg R q19) (rg R q20)) (.b (.l _ (s_f215_l32b lp G call k) (fun R H n=>(rg R q0, rg R q1, rg R q2, rg R q3, rg R q4, rg R q18, rg R q19, rg R q20, rg R q21, rg R q22, H, n)) fun ih32=>.n)) (.s .n (.j (fun R=>s_f215_j12 lp G call k (rg R q0) (rg R q1) (rg R q3) (rg R q4) (rg R q18) (rg R q20) (rg R q24)) .n (.j (fun R=>s_f215_j13 lp G call k (rg R q0) (rg R q3) (rg R q4) (rg R q18) (rg R q24)) .n .n)))))))))))
theorem si_f215 {lp : LpT} (hL : LpOk lp) (G : Roms) : Ok1 G 215 (ar5 (s_f215 lp G)) :=
  .mk at_f215 <| sf5 hL (an := an_f215 lp G) (fun _ _ => obs (by kernel_rfl)) fun call a0 a1 a2 a3 a4 H n k => by kernel_rfl
noncomputable def an_f216 (lp : LpT) (G : Roms) (call : CallT) (k : KV) : An := (.s .n (.b (.l _ (s_f216_l2b lp G call k) (fun R H n=>(rg R q0, rg R q1, rg R q2, rg R q3, rg R q8, H, n)) fun ih2=>(.s .n (.j (fun R=>s_f216_j4 lp G call k ih2 (rg R q0) (rg R q1) (rg R q2) (rg R q3) (rg R q8)) (.b (.s .n (.b (.l _ (s_f216_l6b lp G call k ih2) (fun R H n=>(rg R q0, rg R q1, rg R q2, rg R q3, rg R q8, rg R q9, H, n)) fun ih6=>.n)))) .n)))))
theorem si_f216 {lp : LpT} (hL : LpOk lp) (G : Roms) : Ok1 G 216 (ar4 (s_f216 lp G)) :=
  .mk at_f216 <| sf4 hL (an := an_f216 lp G) (fun _ _ => obs (by kernel_rfl)) fun call a0 a1 a2 a3 H n k => by kernel_rfl
noncomputable def an_f217 (lp : LpT) (G : Roms) (call : CallT) (k : KV) : An := (.j (fun R=>s_f217_j1 lp G call k (rg R q0) (rg R q1) (rg R q2) (rg R q3) (rg R q4)) (.s .n (.c (.s .n (.s .n (.j (fun R=>s_f217_j81 lp G call k (rg R q0) (rg R q1) (rg R q10)) (.b (.l _ (s_f217_l96b lp G call k) (fun R H n=>(rg R q0, rg R q1, rg R q4, rg R q10, rg R q11, H, n)) fun ih96=>.n)) (.s (.s .n (.b (.l _ (s_f217_l82b lp G call k) (fun R H n=>(rg R q0, rg R q10, rg R q13, H, n)) fun ih82=>.n))) .n)))) .n)) (.j (fun R=>s_f217_j2 lp G call k (rg R q0) (rg R q1) (rg R q2) (rg R q3) (rg R q4)) (.s .n (.c (.s .n (.s .n (.j (fun R=>s_f217_j51 lp G call k (rg R q0) (rg R q2) (rg R q14)) (.b (.l _ (s_f217_l65b lp G call k) (fun R H n=>(rg R q0, rg R q2, rg R q4, rg R q14, rg R q15, H, n)) fun ih65=>.n)) (.s (.s .n (.b (.l _ (s_f217_l52b lp G call k) (fun R H n=>(rg R q0, rg R q14, rg R q17, H, n)) fun ih52=>.n))) .n)))) .n)) (.s .n (.s .n (.s .n (.j (fun R=>s_f217_j8 lp G call k (rg R q0) (rg R q1) (rg R q2) (rg R q3) (rg R q4) (rg R q18) (rg R q19) (rg R q20) (rg R q21)) .n (.s .n (.j (fun R=>s_f217_j10 lp G call k (rg R q0) (rg R q1) (rg R q2) (rg R q3) (rg R q4) (rg R q18) (rg R q19) (rg R q20)) (.b (.l _ (s_f217_l32b lp G call k) (fun R H n=>(rg R q0, rg R q1, rg R q2, rg R q3, rg R q4, rg R q18, rg R q19, rg R q20, rg R q21, rg R q22, H, n)) fun ih32=>.n)) (.s .n (.j (fun R=>s_f217_j12 lp G call k (rg R q0) (rg R q1) (rg R q3) (rg R q4) (rg R q18) (rg R q20) (rg R q24)) .n (.j (fun R=>s_f217_j13 lp G call k (rg R q0) (rg R q3) (rg R q4) (rg R q18) (rg R q24)) .n .n)))))))))))
theorem si_f217 {lp : LpT} (hL : LpOk lp) (G : Roms) : Ok1 G 217 (ar5 (s_f217 lp G)) :=
  .mk at_f217 <| sf5 hL (an := an_f217 lp G) (fun _ _ => obs (by kernel_rfl)) fun call a0 a1 a2 a3 a4 H n k => by kernel_rfl
noncomputable def an_f218 (lp : LpT) (G : Roms) (call : CallT) (k : KV) : An := .n
theorem si_f218 {lp : LpT} (hL : LpOk lp) (G : Roms) : Ok1 G 218 (ar3 (s_f218 lp G)) :=
  .mk at_f218 <| sf3 hL (an := an_f218 lp G) (fun _ _ => obs (by kernel_rfl)) fun call a0 a1 a2 H n k => by kernel_rfl
noncomputable def an_f219 (lp : LpT) (G : Roms) (call : CallT) (k : KV) : An := (.s .n (.s .n (.j (fun R=>s_f219_j8 lp G call k (rg R q0)) (.s .n (.b (.l _ (s_f219_l18b lp G call k) (fun R H n=>(rg R q0, rg R q1, rg R q18, rg R q19, rg R q20, H, n)) fun ih18=>.n))) .n)))
theorem si_f219 {lp : LpT} (hL : LpOk lp) (G : Roms) : Ok1 G 219 (ar2 (s_f219 lp G)) :=
  .mk at_f219 <| sf2 hL (an := an_f219 lp G) (fun _ _ => obs (by kernel_rfl)) fun call a0 a1 H n k => by kernel_rfl
noncomputable def an_f220 (lp : LpT) (G : Roms) (call : CallT) (k : KV) : An := (.s .n (.j (fun R=>s_f220_j9 lp G call k (rg R q0) (rg R q1) (rg R q4) (rg R q5)) .n (.s .n (.s .n (.s .n (.j (fun R=>s_f220_j68 lp G call k (rg R q1) (rg R q9) (rg R q10)) .n .n))))))
theorem si_f220 {lp : LpT} (hL : LpOk lp) (G : Roms) : Ok1 G 220 (ar2 (s_f220 lp G)) :=
  .mk at_f220 <| sf2 hL (an := an_f220 lp G) (fun _ _ => obs (by kernel_rfl)) fun call a0 a1 H n k => by kernel_rfl
noncomputable def an_f221 (lp : LpT) (G : Roms) (call : CallT) (k : KV) : An := (.b (.s .n (.c .n (.s .n (.c .n (.s .n (.c (.s .n (.j (fun R=>s_f221_j57 lp G call k (rg R q1)) .n .n)) .n)))))))
theorem si_f221 {lp : LpT} (hL : LpOk lp) (G : Roms) : Ok1 G 221 (ar2 (s_f221 lp G)) :=
  .mk at_f221 <| sf2 hL (an := an_f221 lp G) (fun _ _ => obs (by kernel_rfl)) fun call a0 a1 H n k => by kernel_rfl
noncomputable def an_f224 (lp : LpT) (G : Roms) (call : CallT) (k : KV) : An := .n
theorem si_f224 {lp : LpT} (hL : LpOk lp) (G : Roms) : Ok1 G 224 (ar2 (s_f224 lp G)) :=
  .mk at_f224 <| sf2 hL (an := an_f224 lp G) (fun _ _ => obs (by kernel_rfl)) fun call a0 a1 H n k => by kernel_rfl
noncomputable def an_f225 (lp : LpT) (G : Roms) (call : CallT) (k : KV) : An := .n
theorem si_f225 {lp : LpT} (hL : LpOk lp) (G : Roms) : Ok1 G 225 (ar2 (s_f225 lp G)) :=
  .mk at_f225 <| sf2 hL (an := an_f225 lp G) (fun _ _ => obs (by kernel_rfl)) fun call a0 a1 H n k => by kernel_rfl
noncomputable def an_f226 (lp : LpT) (G : Roms) (call : CallT) (k : KV) : An := (.s .n (.j (fun R=>s_f226_j2 lp G call k (rg R q1)) .n .n))
theorem si_f226 {lp : LpT} (hL : LpOk lp) (G : Roms) : Ok1 G 226 (ar1 (s_f226 lp G)) :=
  .mk at_f226 <| sf1 hL (an := an_f226 lp G) (fun _ _ => obs (by kernel_rfl)) fun call a0 H n k => by kernel_rfl
noncomputable def an_f227 (lp : LpT) (G : Roms) (call : CallT) (k : KV) : An := (.s .n (.s .n (.j (fun R=>s_f227_j11 lp G call k (rg R q0) (rg R q2) (rg R q3)) .n .n)))
theorem si_f227 {lp : LpT} (hL : LpOk lp) (G : Roms) : Ok1 G 227 (ar1 (s_f227 lp G)) :=
  .mk at_f227 <| sf1 hL (an := an_f227 lp G) (fun _ _ => obs (by kernel_rfl)) fun call a0 H n k => by kernel_rfl
noncomputable def an_f228 (lp : LpT) (G : Roms) (call : CallT) (k : KV) : An := (.s .n (.s .n (.j (fun R=>s_f228_j2 lp G call k (rg R q5)) (.s .n (.b (.l _ (s_f228_l6b lp G call k) (fun R H n=>(rg R q0, rg R q5, rg R q9, rg R q10, rg R q11, H, n)) fun ih6=>.n))) .n)))
theorem si_f228 {lp : LpT} (hL : LpOk lp) (G : Roms) : Ok1 G 228 (ar2 (s_f228 lp G)) :=
  .mk at_f228 <| sf2 hL (an := an_f228 lp G) (fun _ _ => obs (by kernel_rfl)) fun call a0 a1 H n k => by kernel_rfl
noncomputable def an_f229 (lp : LpT) (G : Roms) (call : CallT) (k : KV) : An := .n
theorem si_f229 {lp : LpT} (hL : LpOk lp) (G : Roms) : Ok1 G 229 (ar1 (s_f229 lp G)) :=
  .mk at_f229 <| sf1 hL (an := an_f229 lp G) (fun _ _ => obs (by kernel_rfl)) fun call a0 H n k => by kernel_rfl
noncomputable def an_f230 (lp : LpT) (G : Roms) (call : CallT) (k : KV) : An := (.s .n (.s .n (.s .n (.s .n (.j (fun R=>s_f230_j11 lp G call k (rg R q0) (rg R q4) (rg R q7) (rg R q8)) (.s .n (.b (.l _ (s_f230_l19b lp G call k) (fun R H n=>(rg R q0, rg R q4, rg R q7, rg R q8, rg R q24, rg R q25, rg R q26, H, n)) fun ih19=>.n))) .n)))))
theorem si_f230 {lp : LpT} (hL : LpOk lp) (G : Roms) : Ok1 G 230 (ar2 (s_f230 lp G)) :=
  .mk at_f230 <| sf2 hL (an := an_f230 lp G) (fun _ _ => obs (by kernel_rfl)) fun call a0 a1 H n k => by kernel_rfl
noncomputable def an_f231 (lp : LpT) (G : Roms) (call : CallT) (k : KV) : An := .n
theorem si_f231 {lp : LpT} (hL : LpOk lp) (G : Roms) : Ok1 G 231 (ar3 (s_f231 lp G)) :=
  .mk at_f231 <| sf3 hL (an := an_f231 lp G) (fun _ _ => obs (by kernel_rfl)) fun call a0 a1 a2 H n k => by kernel_rfl
noncomputable def an_f246 (lp : LpT) (G : Roms) (call : CallT) (k : KV) : An := (.s .n (.s .n (.j (fun R=>s_f246_j3 lp G call k (rg R q0) (rg R q2) (rg R q4) (rg R q10)) (.b (.l _ (s_f246_l6b lp G call k) (fun R H n=>(rg R q0, rg R q2, rg R q4, rg R q10, rg R q11, H, n)) fun ih6=>.n)) .n)))
theorem si_f246 {lp : LpT} (hL : LpOk lp) (G : Roms) : Ok1 G 246 (ar5 (s_f246 lp G)) :=
  .mk at_f246 <| sf5 hL (an := an_f246 lp G) (fun _ _ => obs (by kernel_rfl)) fun call a0 a1 a2 a3 a4 H n k => by kernel_rfl
noncomputable def an_f247 (lp : LpT) (G : Roms) (call : CallT) (k : KV) : An := (.s .n (.s .n (.j (fun R=>s_f247_j3 lp G call k (rg R q0) (rg R q2) (rg R q4) (rg R q10)) (.b (.l _ (s_f247_l6b lp G call k) (fun R H n=>(rg R q0, rg R q2, rg R q4, rg R q10, rg R q11, H, n)) fun ih6=>.n)) .n)))
theorem si_f247 {lp : LpT} (hL : LpOk lp) (G : Roms) : Ok1 G 247 (ar5 (s_f247 lp G)) :=
  .mk at_f247 <| sf5 hL (an := an_f247 lp G) (fun _ _ => obs (by kernel_rfl)) fun call a0 a1 a2 a3 a4 H n k => by kernel_rfl
noncomputable def an_f248 (lp : LpT) (G : Roms) (call : CallT) (k : KV) : An := (.s .n (.s .n (.s .n (.b (.l _ (s_f248_l13b lp G call k) (fun R H n=>(rg R q0, rg R q7, rg R q21, rg R q22, rg R q23, H, n)) fun ih13=>.n)))))
theorem si_f248 {lp : LpT} (hL : LpOk lp) (G : Roms) : Ok1 G 248 (ar4 (s_f248 lp G)) :=
  .mk at_f248 <| sf4 hL (an := an_f248 lp G) (fun _ _ => obs (by kernel_rfl)) fun call a0 a1 a2 a3 H n k => by kernel_rfl
noncomputable def an_f250 (lp : LpT) (G : Roms) (call : CallT) (k : KV) : An := .n
theorem si_f250 {lp : LpT} (hL : LpOk lp) (G : Roms) : Ok1 G 250 (ar1 (s_f250 lp G)) :=
  .mk at_f250 <| sf1 hL (an := an_f250 lp G) (fun _ _ => obs (by kernel_rfl)) fun call a0 H n k => by kernel_rfl
noncomputable def an_f251 (lp : LpT) (G : Roms) (call : CallT) (k : KV) : An := .n
theorem si_f251 {lp : LpT} (hL : LpOk lp) (G : Roms) : Ok1 G 251 (ar1 (s_f251 lp G)) :=
  .mk at_f251 <| sf1 hL (an := an_f251 lp G) (fun _ _ => obs (by kernel_rfl)) fun call a0 H n k => by kernel_rfl
noncomputable def an_f252 (lp : LpT) (G : Roms) (call : CallT) (k : KV) : An := (.s .n (.s .n (.s .n (.s .n (.s .n (.s .n (.j (fun R=>s_f252_j22 lp G call k (rg R q2) (rg R q3) (rg R q37)) .n .n)))))))
theorem si_f252 {lp : LpT} (hL : LpOk lp) (G : Roms) : Ok1 G 252 (ar1 (s_f252 lp G)) :=
  .mk at_f252 <| sf1 hL (an := an_f252 lp G) (fun _ _ => obs (by kernel_rfl)) fun call a0 H n k => by kernel_rfl
noncomputable def an_f253 (lp : LpT) (G : Roms) (call : CallT) (k : KV) : An := (.s .n (.s .n (.s (.s .n (.c (.j (fun R=>s_f253_j15 lp G call k) .n .n) .n)) (.j (fun R=>s_f253_j24 lp G call k (rg R q0) (rg R q1)) .n .n))))
theorem si_f253 {lp : LpT} (hL : LpOk lp) (G : Roms) : Ok1 G 253 (ar2 (s_f253 lp G)) :=
  .mk at_f253 <| sf2 hL (an := an_f253 lp G) (fun _ _ => obs (by kernel_rfl)) fun call a0 a1 H n k => by kernel_rfl
noncomputable def an_f254 (lp : LpT) (G : Roms) (call : CallT) (k : KV) : An := .n
theorem si_f254 {lp : LpT} (hL : LpOk lp) (G : Roms) : Ok1 G 254 (ar2 (s_f254 lp G)) :=
  .mk at_f254 <| sf2 hL (an := an_f254 lp G) (fun _ _ => obs (by kernel_rfl)) fun call a0 a1 H n k => by kernel_rfl
noncomputable def an_f255 (lp : LpT) (G : Roms) (call : CallT) (k : KV) : An := .n
theorem si_f255 {lp : LpT} (hL : LpOk lp) (G : Roms) : Ok1 G 255 (ar2 (s_f255 lp G)) :=
  .mk at_f255 <| sf2 hL (an := an_f255 lp G) (fun _ _ => obs (by kernel_rfl)) fun call a0 a1 H n k => by kernel_rfl
noncomputable def an_f256 (lp : LpT) (G : Roms) (call : CallT) (k : KV) : An := .n
theorem si_f256 {lp : LpT} (hL : LpOk lp) (G : Roms) : Ok1 G 256 (ar4 (s_f256 lp G)) :=
  .mk at_f256 <| sf4 hL (an := an_f256 lp G) (fun _ _ => obs (by kernel_rfl)) fun call a0 a1 a2 a3 H n k => by kernel_rfl
noncomputable def an_f266 (lp : LpT) (G : Roms) (call : CallT) (k : KV) : An := (.s .n (.b (.l _ (s_f266_l1b lp G call k) (fun R H n=>(rg R q0, rg R q1, rg R q2, rg R q3, rg R q10, H, n)) fun ih1=>.n)))
theorem si_f266 {lp : LpT} (hL : LpOk lp) (G : Roms) : Ok1 G 266 (ar5 (s_f266 lp G)) :=
  .mk at_f266 <| sf5 hL (an := an_f266 lp G) (fun _ _ => obs (by kernel_rfl)) fun call a0 a1 a2 a3 a4 H n k => by kernel_rfl
noncomputable def an_f267 (lp : LpT) (G : Roms) (call : CallT) (k : KV) : An := (.s .n (.b (.l _ (s_f267_l1b lp G call k) (fun R H n=>(rg R q0, rg R q1, rg R q2, rg R q3, rg R q10, H, n)) fun ih1=>.n)))
theorem si_f267 {lp : LpT} (hL : LpOk lp) (G : Roms) : Ok1 G 267 (ar5 (s_f267 lp G)) :=
  .mk at_f267 <| sf5 hL (an := an_f267 lp G) (fun _ _ => obs (by kernel_rfl)) fun call a0 a1 a2 a3 a4 H n k => by kernel_rfl
noncomputable def an_f268 (lp : LpT) (G : Roms) (call : CallT) (k : KV) : An := (.s .n (.s .n (.j (fun R=>s_f268_j5 lp G call k (rg R q8) (rg R q9)) (.b (.l _ (s_f268_l8b lp G call k) (fun R H n=>(rg R q0, rg R q1, rg R q2, rg R q3, rg R q8, rg R q9, H, n)) fun ih8=>.n)) .n)))
theorem si_f268 {lp : LpT} (hL : LpOk lp) (G : Roms) : Ok1 G 268 (ar4 (s_f268 lp G)) :=
  .mk at_f268 <| sf4 hL (an := an_f268 lp G) (fun _ _ => obs (by kernel_rfl)) fun call a0 a1 a2 a3 H n k => by kernel_rfl
noncomputable def an_f269 (lp : LpT) (G : Roms) (call : CallT) (k : KV) : An := .n
theorem si_f269 {lp : LpT} (hL : LpOk lp) (G : Roms) : Ok1 G 269 (ar1 (s_f269 lp G)) :=
  .mk at_f269 <| sf1 hL (an := an_f269 lp G) (fun _ _ => obs (by kernel_rfl)) fun call a0 H n k => by kernel_rfl
noncomputable def an_f270 (lp : LpT) (G : Roms) (call : CallT) (k : KV) : An := (.s .n (.s .n (.s .n (.j (fun R=>s_f270_j6 lp G call k (rg R q2) (rg R q4)) .n .n))))
theorem si_f270 {lp : LpT} (hL : LpOk lp) (G : Roms) : Ok1 G 270 (ar1 (s_f270 lp G)) :=
  .mk at_f270 <| sf1 hL (an := an_f270 lp G) (fun _ _ => obs (by kernel_rfl)) fun call a0 H n k => by kernel_rfl
noncomputable def an_f277 (lp : LpT) (G : Roms) (call : CallT) (k : KV) : An := .n
theorem si_f277 {lp : LpT} (hL : LpOk lp) (G : Roms) : Ok1 G 277 (ar1 (s_f277 lp G)) :=
  .mk at_f277 <| sf1 hL (an := an_f277 lp G) (fun _ _ => obs (by kernel_rfl)) fun call a0 H n k => by kernel_rfl
noncomputable def an_f278 (lp : LpT) (G : Roms) (call : CallT) (k : KV) : An := (.s .n (.s .n (.j (fun R=>s_f278_j5 lp G call k (rg R q6) (rg R q7)) (.b (.l _ (s_f278_l8b lp G call k) (fun R H n=>(rg R q0, rg R q1, rg R q2, rg R q6, rg R q7, H, n)) fun ih8=>.n)) .n)))
theorem si_f278 {lp : LpT} (hL : LpOk lp) (G : Roms) : Ok1 G 278 (ar3 (s_f278 lp G)) :=
  .mk at_f278 <| sf3 hL (an := an_f278 lp G) (fun _ _ => obs (by kernel_rfl)) fun call a0 a1 a2 H n k => by kernel_rfl
noncomputable def an_f279 (lp : LpT) (G : Roms) (call : CallT) (k : KV) : An := .n
theorem si_f279 {lp : LpT} (hL : LpOk lp) (G : Roms) : Ok1 G 279 (ar1 (s_f279 lp G)) :=
  .mk at_f279 <| sf1 hL (an := an_f279 lp G) (fun _ _ => obs (by kernel_rfl)) fun call a0 H n k => by kernel_rfl
noncomputable def an_f280 (lp : LpT) (G : Roms) (call : CallT) (k : KV) : An := (.s .n (.s .n (.j (fun R=>s_f280_j10 lp G call k (rg R q0) (rg R q2) (rg R q63)) (.s .n (.b (.l _ (s_f280_l37b lp G call k) (fun R H n=>(rg R q0, rg R q2, rg R q3, rg R q16, rg R q17, rg R q18, rg R q63, H, n)) fun ih37=>.n))) (.s .n (.j (fun R=>s_f280_j14 lp G call k (rg R q2) (rg R q6) (rg R q63)) (.b (.l _ (s_f280_l17b lp G call k) (fun R H n=>(rg R q0, rg R q2, rg R q6, rg R q63, H, n)) fun ih17=>(.s .n (.b (.s .n (.s .n (.j (fun R=>s_f280_j23 lp G call k ih17 (rg R q0) (rg R q2) (rg R q6) (rg R q7) (rg R q8) (rg R q63)) .n .n))))))) .n)))))
theorem si_f280 {lp : LpT} (hL : LpOk lp) (G : Roms) : Ok1 G 280 (ar1 (s_f280 lp G)) :=
  .mk at_f280 <| sf1 hL (an := an_f280 lp G) (fun _ _ => obs (by kernel_rfl)) fun call a0 H n k => by kernel_rfl
noncomputable def an_f281 (lp : LpT) (G : Roms) (call : CallT) (k : KV) : An := (.s .n (.s .n (.b (.l _ (s_f281_l5b lp G call k) (fun R H n=>(rg R q0, rg R q2, rg R q3, H, n)) fun ih5=>.n))))
theorem si_f281 {lp : LpT} (hL : LpOk lp) (G : Roms) : Ok1 G 281 (ar1 (s_f281 lp G)) :=
  .mk at_f281 <| sf1 hL (an := an_f281 lp G) (fun _ _ => obs (by kernel_rfl)) fun call a0 H n k => by kernel_rfl
noncomputable def an_f282 (lp : LpT) (G : Roms) (call : CallT) (k : KV) : An := (.s .n (.s .n (.s .n (.j (fun R=>s_f282_j14 lp G call k (rg R q2) (rg R q4)) .n .n))))
theorem si_f282 {lp : LpT} (hL : LpOk lp) (G : Roms) : Ok1 G 282 (ar1 (s_f282 lp G)) :=
  .mk at_f282 <| sf1 hL (an := an_f282 lp G) (fun _ _ => obs (by kernel_rfl)) fun call a0 H n k => by kernel_rfl
noncomputable def an_f283 (lp : LpT) (G : Roms) (call : CallT) (k : KV) : An := .n
theorem si_f283 {lp : LpT} (hL : LpOk lp) (G : Roms) : Ok1 G 283 (ar3 (s_f283 lp G)) :=
  .mk at_f283 <| sf3 hL (an := an_f283 lp G) (fun _ _ => obs (by kernel_rfl)) fun call a0 a1 a2 H n k => by kernel_rfl
noncomputable def an_f284 (lp : LpT) (G : Roms) (call : CallT) (k : KV) : An := (.s .n (.s .n (.s .n (.j (fun R=>s_f284_j3 lp G call k (rg R q3)) (.b (.l _ (s_f284_l4b lp G call k) (fun R H n=>(rg R q0, rg R q3, H, n)) fun ih4=>(.s .n (.b (.j (fun R=>s_f284_j10 lp G call k ih4 (rg R q0) (rg R q3)) .n .n))))) .n))))
theorem si_f284 {lp : LpT} (hL : LpOk lp) (G : Roms) : Ok1 G 284 (ar1 (s_f284 lp G)) :=
  .mk at_f284 <| sf1 hL (an := an_f284 lp G) (fun _ _ => obs (by kernel_rfl)) fun call a0 H n k => by kernel_rfl
end Go.R3

/- All plain functions. -/
namespace Go.R3
open Go.Eng
set_option maxRecDepth 100000
noncomputable def FS (lp : LpT) (G : Roms) : T SF := (.n none (.n none (.n none (.n none (.n none (.n none (.n (some (ar4 (s_f63 lp G))) (.n none (.n (some (ar2 (s_f255 lp G))) .e .e) .e) (.n (some (ar2 (s_f191 lp G))) .e .e)) (.n none (.n (some (ar2 (s_f159 lp G))) .e .e) .e)) (.n none (.n (some (ar2 (s_f79 lp G))) (.n (some (ar1 (s_f143 lp G))) .e .e) .e) .e)) (.n (some (ar0 (s_f23 lp G))) (.n none (.n (some (ar2 (s_f71 lp G))) (.n (some (ar2 (s_f135 lp G))) .e .e) (.n (some (ar1 (s_f199 lp G))) .e .e)) (.n (some (ar1 (s_f103 lp G))) .e (.n (some (ar3 (s_f231 lp G))) .e .e))) (.n none (.n none (.n none (.n (some (ar1 (s_f279 lp G))) .e .e) .e) (.n (some (ar5 (s_f215 lp G))) .e .e)) (.n none (.n (some (ar2 (s_f183 lp G))) .e .e) (.n (some (ar5 (s_f247 lp G))) .e .e))))) (.n none (.n none (.n none (.n (some (ar2 (s_f67 lp G))) .e (.n (some (ar2 (s_f195 lp G))) .e .e)) (.n (some (ar1 (s_f99 lp G))) (.n (some (ar1 (s_f163 lp G))) .e .e) (.n (some (ar1 (s_f227 lp G))) .e .e))) (.n (some (ar2 (s_f51 lp G))) (.n none (.n (some (ar2 (s_f147 lp G))) .e .e) .e) (.n (some (ar1 (s_f115 lp G))) (.n (some (ar3 (s_f179 lp G))) .e .e) .e))) (.n none (.n (some (ar0 (s_f43 lp G))) (.n none (.n none (.n (some (ar5 (s_f267 lp G))) .e .e) .e) (.n (some (ar1 (s_f203 lp G))) .e .e)) .e) (.n (some (ar4 (s_f59 lp G))) (.n (some (ar3 (s_f91 lp G))) (.n (some (ar2 (s_f155 lp G))) (.n (some (ar3 (s_f283 lp G))) .e .e) .e) (.n (some (ar2 (s_f219 lp G))) .e .e)) (.n (some (ar2 (s_f123 lp G))) .e (.n (some (ar1 (s_f251 lp G))) .e .e)))))) (.n none (.n none (.n none (.n (some (ar1 (s_f33 lp G))) (.n none .e (.n (some (ar2 (s_f193 lp G))) .e .e)) (.n (some (ar1 (s_f97 lp G))) (.n (some (ar1 (s_f161 lp G))) .e .e) (.n (some (ar2 (s_f225 lp G))) .e .e))) (.n none (.n none (.n (some (ar2 (s_f145 lp G))) .e .e) .e) .e)) (.n (some (ar6 (s_f25 lp G))) (.n none (.n none .e (.n (some (ar1 (s_f201 lp G))) .e .e)) .e) (.n none (.n none (.n (some (ar1 (s_f153 lp G))) (.n (some (ar1 (s_f281 lp G))) .e .e) .e) (.n (some (ar5 (s_f217 lp G))) .e .e)) .e))) (.n none (.n none (.n (some (ar2 (s_f37 lp G))) (.n none (.n (some (ar2 (s_f133 lp G))) .e .e) (.n (some (ar1 (s_f197 lp G))) .e .e)) (.n (some (ar2 (s_f101 lp G))) .e (.n (some (ar1 (s_f229 lp G))) .e .e))) (.n (some (ar1 (s_f53 lp G))) (.n (some (ar1 (s_f85 lp G))) (.n none (.n (some (ar1 (s_f277 lp G))) .e .e) .e) .e) (.n none (.n (some (ar3 (s_f181 lp G))) .e .e) .e))) (.n none (.n (some (ar1 (s_f45 lp G))) (.n (some (ar2 (s_f77 lp G))) (.n (some (ar0 (s_f141 lp G))) (.n (some (ar1 (s_f269 lp G))) .e .e) .e) (.n (some (ar2 (s_f205 lp G))) .e .e)) .e) (.n (some (ar1 (s_f61 lp G))) (.n (some (ar2 (s_f93 lp G))) (.n (some (ar2 (s_f157 lp G))) .e .e) (.n (some (ar2 (s_f221 lp G))) .e .e)) (.n none .e (.n (some (ar2 (s_f253 lp G))) .e .e))))))) (.n none (.n none (.n none (.n none (.n none (.n none (.n none (.n (some (ar4 (s_f256 lp G))) .e .e) .e) (.n (some (ar2 (s_f192 lp G))) .e .e)) (.n none (.n (some (ar2 (s_f160 lp G))) .e .e) (.n (some (ar2 (s_f224 lp G))) .e .e))) (.n none (.n (some (ar2 (s_f80 lp G))) .e .e) .e)) (.n (some (ar1 (s_f24 lp G))) (.n (some (ar1 (s_f40 lp G))) (.n none .e (.n (some (ar1 (s_f200 lp G))) .e .e)) (.n (some (ar2 (s_f104 lp G))) .e .e)) (.n none (.n none (.n none (.n (some (ar1 (s_f280 lp G))) .e .e) .e) (.n (some (ar4 (s_f216 lp G))) .e .e)) (.n none (.n (some (ar3 (s_f184 lp G))) .e .e) (.n (some (ar4 (s_f248 lp G))) .e .e))))) (.n none (.n (some (ar2 (s_f20 lp G))) (.n (some (ar1 (s_f36 lp G))) (.n (some (ar3 (s_f68 lp G))) (.n (some (ar2 (s_f132 lp G))) .e .e) (.n (some (ar1 (s_f196 lp G))) .e .e)) (.n (some (ar2 (s_f100 lp G))) (.n (some (ar2 (s_f164 lp G))) .e .e) (.n (some (ar2 (s_f228 lp G))) .e .e))) (.n (some (ar2 (s_f52 lp G))) (.n (some (ar1 (s_f84 lp G))) .e .e) (.n none (.n (some (ar3 (s_f180 lp G))) .e .e) .e))) (.n none (.n none (.n none (.n none (.n (some (ar4 (s_f268 lp G))) .e .e) .e) (.n (some (ar3 (s_f204 lp G))) .e .e)) (.n (some (ar2 (s_f108 lp G))) .e .e)) (.n (some (ar2 (s_f60 lp G))) (.n (some (ar3 (s_f92 lp G))) (.n (some (ar2 (s_f156 lp G))) (.n (some (ar1 (s_f284 lp G))) .e .e) .e) (.n (some (ar2 (s_f220 lp G))) .e .e)) (.n none .e (.n (some (ar1 (s_f252 lp G))) .e .e)))))) (.n none (.n none (.n none (.n none (.n none .e (.n (some (ar1 (s_f194 lp G))) .e .e)) (.n (some (ar1 (s_f98 lp G))) (.n (some (ar2 (s_f162 lp G))) .e .e) (.n (some (ar1 (s_f226 lp G))) .e .e))) (.n none (.n none (.n (some (ar4 (s_f146 lp G))) .e .e) .e) (.n (some (ar1 (s_f114 lp G))) (.n (some (ar3 (s_f178 lp G))) .e .e) .e))) (.n none (.n none (.n none (.n none (.n (some (ar5 (s_f266 lp G))) .e .e) .e) (.n (some (ar1 (s_f202 lp G))) .e .e)) .e) (.n (some (ar1 (s_f58 lp G))) (.n none (.n (some (ar1 (s_f154 lp G))) (.n (some (ar1 (s_f282 lp G))) .e .e) .e) (.n (some (ar3 (s_f218 lp G))) .e .e)) (.n (some (ar2 (s_f122 lp G))) .e (.n (some (ar1 (s_f250 lp G))) .e .e))))) (.n none (.n none (.n none (.n none (.n (some (ar2 (s_f134 lp G))) .e .e) (.n (some (ar1 (s_f198 lp G))) .e .e)) (.n (some (ar2 (s_f102 lp G))) .e (.n (some (ar2 (s_f230 lp G))) .e .e))) (.n (some (ar2 (s_f54 lp G))) (.n (some (ar1 (s_f86 lp G))) (.n none (.n (some (ar3 (s_f278 lp G))) .e .e) .e) (.n (some (ar4 (s_f214 lp G))) .e .e)) (.n none (.n (some (ar1 (s_f182 lp G))) .e .e) (.n (some (ar5 (s_f246 lp G))) .e .e)))) (.n (some (ar0 (s_f30 lp G))) (.n (some (ar2 (s_f46 lp G))) (.n (some (ar1 (s_f78 lp G))) (.n (some (ar1 (s_f142 lp G))) (.n (some (ar1 (s_f270 lp G))) .e .e) .e) .e) (.n (some (ar2 (s_f110 lp G))) .e .e)) (.n (some (ar4 (s_f62 lp G))) (.n none (.n (some (ar1 (s_f158 lp G))) .e .e) .e) (.n none .e (.n (some (ar2 (s_f254 lp G))) .e .e))))))))
theorem all_ok {lp : LpT} (hL : LpOk lp) (G : Roms) : T.All (fun p s => Ok1 G p.key s) (FS lp G) := (.n0 (.n0 (.n0 (.n0 (.n0 (.n0 (.n1 (si_f63 hL G) (.n0 (.n1 (si_f255 hL G) .e .e) .e) (.n1 (si_f191 hL G) .e .e)) (.n0 (.n1 (si_f159 hL G) .e .e) .e)) (.n0 (.n1 (si_f79 hL G) (.n1 (si_f143 hL G) .e .e) .e) .e)) (.n1 (si_f23 hL G) (.n0 (.n1 (si_f71 hL G) (.n1 (si_f135 hL G) .e .e) (.n1 (si_f199 hL G) .e .e)) (.n1 (si_f103 hL G) .e (.n1 (si_f231 hL G) .e .e))) (.n0 (.n0 (.n0 (.n1 (si_f279 hL G) .e .e) .e) (.n1 (si_f215 hL G) .e .e)) (.n0 (.n1 (si_f183 hL G) .e .e) (.n1 (si_f247 hL G) .e .e))))) (.n0 (.n0 (.n0 (.n1 (si_f67 hL G) .e (.n1 (si_f195 hL G) .e .e)) (.n1 (si_f99 hL G) (.n1 (si_f163 hL G) .e .e) (.n1 (si_f227 hL G) .e .e))) (.n1 (si_f51 hL G) (.n0 (.n1 (si_f147 hL G) .e .e) .e) (.n1 (si_f115 hL G) (.n1 (si_f179 hL G) .e .e) .e))) (.n0 (.n1 (si_f43 hL G) (.n0 (.n0 (.n1 (si_f267 hL G) .e .e) .e) (.n1 (si_f203 hL G) .e .e)) .e) (.n1 (si_f59 hL G) (.n1 (si_f91 hL G) (.n1 (si_f155 hL G) (.n1 (si_f283 hL G) .e .e) .e) (.n1 (si_f219 hL G) .e .e)) (.n1 (si_f123 hL G) .e (.n1 (si_f251 hL G) .e .e)))))) (.n0 (.n0 (.n0 (.n1 (si_f33 hL G) (.n0 .e (.n1 (si_f193 hL G) .e .e)) (.n1 (si_f97 hL G) (.n1 (si_f161 hL G) .e .e) (.n1 (si_f225 hL G) .e .e))) (.n0 (.n0 (.n1 (si_f145 hL G) .e .e) .e) .e)) (.n1 (si_f25 hL G) (.n0 (.n0 .e (.n1 (si_f201 hL G) .e .e)) .e) (.n0 (.n0 (.n1 (si_f153 hL G) (.n1 (si_f281 hL G) .e .e) .e) (.n1 (si_f217 hL G) .e .e)) .e))) (.n0 (.n0 (.n1 (si_f37 hL G) (.n0 (.n1 (si_f133 hL G) .e .e) (.n1 (si_f197 hL G) .e .e)) (.n1 (si_f101 hL G) .e (.n1 (si_f229 hL G) .e .e))) (.n1 (si_f53 hL G) (.n1 (si_f85 hL G) (.n0 (.n1 (si_f277 hL G) .e .e) .e) .e) (.n0 (.n1 (si_f181 hL G) .e .e) .e))) (.n0 (.n1 (si_f45 hL G) (.n1 (si_f77 hL G) (.n1 (si_f141 hL G) (.n1 (si_f269 hL G) .e .e) .e) (.n1 (si_f205 hL G) .e .e)) .e) (.n1 (si_f61 hL G) (.n1 (si_f93 hL G) (.n1 (si_f157 hL G) .e .e) (.n1 (si_f221 hL G) .e .e)) (.n0 .e (.n1 (si_f253 hL G) .e .e))))))) (.n0 (.n0 (.n0 (.n0 (.n0 (.n0 (.n0 (.n1 (si_f256 hL G) .e .e) .e) (.n1 (si_f192 hL G) .e .e)) (.n0 (.n1 (si_f160 hL G) .e .e) (.n1 (si_f224 hL G) .e .e))) (.n0 (.n1 (si_f80 hL G) .e .e) .e)) (.n1 (si_f24 hL G) (.n1 (si_f40 hL G) (.n0 .e (.n1 (si_f200 hL G) .e .e)) (.n1 (si_f104 hL G) .e .e)) (.n0 (.n0 (.n0 (.n1 (si_f280 hL G) .e .e) .e) (.n1 (si_f216 hL G) .e .e)) (.n0 (.n1 (si_f184 hL G) .e .e) (.n1 (si_f248 hL G) .e .e))))) (.n0 (.n1 (si_f20 hL G) (.n1 (si_f36 hL G) (.n1 (si_f68 hL G) (.n1 (si_f132 hL G) .e .e) (.n1 (si_f196 hL G) .e .e)) (.n1 (si_f100 hL G) (.n1 (si_f164 hL G) .e .e) (.n1 (si_f228 hL G) .e .e))) (.n1 (si_f52 hL G) (.n1 (si_f84 hL G) .e .e) (.n0 (.n1 (si_f180 hL G) .e .e) .e))) (.n0 (.n0 (.n0 (.n0 (.n1 (si_f268 hL G) .e .e) .e) (.n1 (si_f204 hL G) .e .e)) (.n1 (si_f108 hL G) .e .e)) (.n1 (si_f60 hL G) (.n1 (si_f92 hL G) (.n1 (si_f156 hL G) (.n1 (si_f284 hL G) .e .e) .e) (.n1 (si_f220 hL G) .e .e)) (.n0 .e (.n1 (si_f252 hL G) .e .e)))))) (.n0 (.n0 (.n0 (.n0 (.n0 .e (.n1 (si_f194 hL G) .e .e)) (.n1 (si_f98 hL G) (.n1 (si_f162 hL G) .e .e) (.n1 (si_f226 hL G) .e .e))) (.n0 (.n0 (.n1 (si_f146 hL G) .e .e) .e) (.n1 (si_f114 hL G) (.n1 (si_f178 hL G) .e .e) .e))) (.n0 (.n0 (.n0 (.n0 (.n1 (si_f266 hL G) .e .e) .e) (.n1 (si_f202 hL G) .e .e)) .e) (.n1 (si_f58 hL G) (.n0 (.n1 (si_f154 hL G) (.n1 (si_f282 hL G) .e .e) .e) (.n1 (si_f218 hL G) .e .e)) (.n1 (si_f122 hL G) .e (.n1 (si_f250 hL G) .e .e))))) (.n0 (.n0 (.n0 (.n0 (.n1 (si_f134 hL G) .e .e) (.n1 (si_f198 hL G) .e .e)) (.n1 (si_f102 hL G) .e (.n1 (si_f230 hL G) .e .e))) (.n1 (si_f54 hL G) (.n1 (si_f86 hL G) (.n0 (.n1 (si_f278 hL G) .e .e) .e) (.n1 (si_f214 hL G) .e .e)) (.n0 (.n1 (si_f182 hL G) .e .e) (.n1 (si_f246 hL G) .e .e)))) (.n1 (si_f30 hL G) (.n1 (si_f46 hL G) (.n1 (si_f78 hL G) (.n1 (si_f142 hL G) (.n1 (si_f270 hL G) .e .e) .e) .e) (.n1 (si_f110 hL G) .e .e)) (.n1 (si_f62 hL G) (.n0 (.n1 (si_f158 hL G) .e .e) .e) (.n0 .e (.n1 (si_f254 hL G) .e .e))))))))
theorem fs_ok {lp : LpT} (hL : LpOk lp) (G : Roms) : FsOk F G (FS lp G) := fun f s h => by
  have := T.All.getp (p := pth f) (all_ok hL G) h
  rw [key_pth] at this
  obtain ⟨h, o⟩ := this
  exact ⟨_, h, o⟩
end Go.R3

