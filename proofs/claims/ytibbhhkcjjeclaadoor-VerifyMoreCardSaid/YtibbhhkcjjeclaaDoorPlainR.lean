/- Part of a proof: texts LQSi LQSt of the engine and what is proved with it; nothing is assumed. -/
import Derived.Test.YtibbhhkcjjeclaaDoorPlain
import Derived.Test.YtibbhhkcjjeclaaDoorCode
import Derived.Test.YtibbhhkcjjeclaaDoorEngE
set_option linter.unusedVariables false
set_option linter.unusedSimpArgs false
noncomputable section
namespace Go.RL
open Go.Ba
set_option maxRecDepth 100000
inductive O3 (G : AL) (n : Nat) (s : SF) : Prop where
 | mk {af : AF} (h : T.get F n = some af) (o : wW G af s) : O3 G n s
def Xx (lp : Aq) (G : AL) (call : AV) (k : KV) : An := (.s .n (.s .n (.s .n (.s .n (.s .n (.s .n (.s .n (.j (fun R=>Du lp G call k (rg R q0) (rg R q12) (rg R q13) (rg R q14)) (.s .n (.b (.l _ (IG lp G call k) (fun R H n=>(rg R q0, rg R q2, rg R q3, rg R q4, rg R q12, rg R q13, rg R q14, rg R q52, rg R q53, rg R q54, H, n)) fun ih41=>(.s .n (.s .n (.j (fun R=>Ez lp G call k ih41 (rg R q0) (rg R q2) (rg R q3) (rg R q4) (rg R q12) (rg R q13) (rg R q14) (rg R q52) (rg R q53) (rg R q54)) (.b (.s .n (.s .n (.s .n (.s .n (.j (fun R=>Dp lp G call k ih41 (rg R q0) (rg R q2) (rg R q3) (rg R q4) (rg R q12) (rg R q13) (rg R q14) (rg R q15) (rg R q16) (rg R q17) (rg R q52) (rg R q53) (rg R q54)) (.s .n (.b (.l _ (IC lp G call k ih41) (fun R H n=>(rg R q0, rg R q2, rg R q3, rg R q4, rg R q12, rg R q13, rg R q14, rg R q15, rg R q16, rg R q17, rg R q52, rg R q53, rg R q54, rg R q77, rg R q78, rg R q79, H, n)) fun ih91=>.n))) .n)))))) .n)))))) .n))))))))
theorem QM {lp : Aq} (hL : Dk lp) (G : AL) : O3 G 10 (ar5 (Ep lp G)) :=
 .mk KZ <| sf5 hL (an := Xx lp G) (fun _ _ => obs (by kernel_rfl)) fun call a0 a1 a2 a3 a4 H n k => by kernel_rfl
def mM (lp : Aq) (G : AL) (call : AV) (k : KV) : An := (.s .n (.j (fun R=>Pz lp G call k (rg R q0)) (.s .n (.b (.l _ (Uc lp G call k) (fun R H n=>(rg R q0, rg R q5, rg R q6, rg R q7, H, n)) fun ih5=>.n))) .n))
theorem YL {lp : Aq} (hL : Dk lp) (G : AL) : O3 G 13 (Jf (MP lp G)) :=
 .mk SC <| lU hL (an := mM lp G) (fun _ _ => obs (by kernel_rfl)) fun call a0 H n k => by kernel_rfl
def AAB (lp : Aq) (G : AL) (call : AV) (k : KV) : An := (.s .n (.s .n (.s .n (.s .n (.j (fun R=>Vb lp G call k (rg R q0) (rg R q4) (rg R q5)) (.s .n (.b (.l _ (YD lp G call k) (fun R H n=>(rg R q0, rg R q4, rg R q5, rg R q19, rg R q20, rg R q21, H, n)) fun ih33=>.n))) (.s .n (.j (fun R=>UU lp G call k (rg R q5)) (.s .n (.b (.l _ (SG lp G call k) (fun R H n=>(rg R q5, rg R q73, rg R q74, rg R q75, H, n)) fun ih13=>.n))) .n)))))))
theorem kJ {lp : Aq} (hL : Dk lp) (G : AL) : O3 G 14 (Jf (TQ lp G)) :=
 .mk YP <| lU hL (an := AAB lp G) (fun _ _ => obs (by kernel_rfl)) fun call a0 H n k => by kernel_rfl
def jH (lp : Aq) (G : AL) (call : AV) (k : KV) : An := (.s .n (.s .n (.j (fun R=>NC lp G call k) (.s .n (.b (.l _ (Qg lp G call k) (fun R H n=>(rg R q0, rg R q3, rg R q24, rg R q25, rg R q26, H, n)) fun ih12=>.n))) .n)))
theorem WA {lp : Aq} (hL : Dk lp) (G : AL) : O3 G 17 (Rf (JC lp G)) :=
 .mk Pj <| sf2 hL (an := jH lp G) (fun _ _ => obs (by kernel_rfl)) fun call a0 a1 H n k => by kernel_rfl
def dX (lp : Aq) (G : AL) (call : AV) (k : KV) : An := .n
theorem Ug {lp : Aq} (hL : Dk lp) (G : AL) : O3 G 18 (Jf (IX lp G)) :=
 .mk Oo <| lU hL (an := dX lp G) (fun _ _ => obs (by kernel_rfl)) fun call a0 H n k => by kernel_rfl
def dD (lp : Aq) (G : AL) (call : AV) (k : KV) : An := (.s .n (.s .n (.j (fun R=>NJ lp G call k (rg R q6)) (.b (.l _ (Qz lp G call k) (fun R H n=>(rg R q0, rg R q1, rg R q6, H, n)) fun ih2=>.n)) .n)))
theorem Ue {lp : Aq} (hL : Dk lp) (G : AL) : O3 G 19 (Rf (Ia lp G)) :=
 .mk Om <| sf2 hL (an := dD lp G) (fun _ _ => obs (by kernel_rfl)) fun call a0 a1 H n k => by kernel_rfl
def gW (lp : Aq) (G : AL) (call : AV) (k : KV) : An := .n
theorem V5 {lp : Aq} (hL : Dk lp) (G : AL) : O3 G 21 (Rf (Iz lp G)) :=
 .mk P9 <| sf2 hL (an := gW lp G) (fun _ _ => obs (by kernel_rfl)) fun call a0 a1 H n k => by kernel_rfl
def jZ (lp : Aq) (G : AL) (call : AV) (k : KV) : An := .n
theorem jT {lp : Aq} (hL : Dk lp) (G : AL) : O3 G 25 (ar0 (Xh lp G)) :=
 .mk kX <| sf0 hL (an := jZ lp G) (fun _ _ => obs (by kernel_rfl)) fun call  H n k => by kernel_rfl
def pV (lp : Aq) (G : AL) (call : AV) (k : KV) : An := (.s .n (.j (fun R=>Q5 lp G call k (rg R q2)) (.s .n (.b (.l _ (VH lp G call k) (fun R H n=>(rg R q0, rg R q2, rg R q12, rg R q13, rg R q14, H, n)) fun ih7=>(.s .n (.s .n (.j (fun R=>Nr lp G call k ih7 (rg R q0) (rg R q2) (rg R q12) (rg R q13) (rg R q14)) (.b (.s .n (.s .n (.s .n (.b (.l _ (Ot lp G call k ih7) (fun R H n=>(rg R q0, rg R q2, rg R q4, rg R q5, rg R q12, rg R q13, rg R q14, rg R q26, rg R q27, rg R q28, H, n)) fun ih22=>.n)))))) .n)))))) .n))
theorem Yz {lp : Aq} (hL : Dk lp) (G : AL) : O3 G 26 (Jf (OM lp G)) :=
 .mk UO <| lU hL (an := pV lp G) (fun _ _ => obs (by kernel_rfl)) fun call a0 H n k => by kernel_rfl
def AC7 (lp : Aq) (G : AL) (call : AV) (k : KV) : An := .n
theorem uw {lp : Aq} (hL : Dk lp) (G : AL) : O3 G 29 (ar0 (X7 lp G)) :=
 .mk fM <| sf0 hL (an := AC7 lp G) (fun _ _ => obs (by kernel_rfl)) fun call  H n k => by kernel_rfl
def uD (lp : Aq) (G : AL) (call : AV) (k : KV) : An := .n
theorem vM {lp : Aq} (hL : Dk lp) (G : AL) : O3 G 31 (Rf (fB lp G)) :=
 .mk vS <| sf2 hL (an := uD lp G) (fun _ _ => obs (by kernel_rfl)) fun call a0 a1 H n k => by kernel_rfl
def jC (lp : Aq) (G : AL) (call : AV) (k : KV) : An := .n
theorem V7 {lp : Aq} (hL : Dk lp) (G : AL) : O3 G 32 (Jf (JH lp G)) :=
 .mk Py <| lU hL (an := jC lp G) (fun _ _ => obs (by kernel_rfl)) fun call a0 H n k => by kernel_rfl
def nJ (lp : Aq) (G : AL) (call : AV) (k : KV) : An := .n
theorem mG {lp : Aq} (hL : Dk lp) (G : AL) : O3 G 33 (ar3 (Y5 lp G)) :=
 .mk lu <| sf3 hL (an := nJ lp G) (fun _ _ => obs (by kernel_rfl)) fun call a0 a1 a2 H n k => by kernel_rfl
def qI (lp : Aq) (G : AL) (call : AV) (k : KV) : An := .n
theorem Y4 {lp : Aq} (hL : Dk lp) (G : AL) : O3 G 34 (Jf (OD lp G)) :=
 .mk UY <| lU hL (an := qI lp G) (fun _ _ => obs (by kernel_rfl)) fun call a0 H n k => by kernel_rfl
def qG (lp : Aq) (G : AL) (call : AV) (k : KV) : An := .n
theorem UG {lp : Aq} (hL : Dk lp) (G : AL) : O3 G 35 (Jf (GU lp G)) :=
 .mk MN <| lU hL (an := qG lp G) (fun _ _ => obs (by kernel_rfl)) fun call a0 H n k => by kernel_rfl
def lJ (lp : Aq) (G : AL) (call : AV) (k : KV) : An := (.s .n (.s .n (.j (fun R=>Jk lp G call k (rg R q1)) (.s .n (.b (.l _ (Rw lp G call k) (fun R H n=>(rg R q1, rg R q60, rg R q61, rg R q62, H, n)) fun ih127=>.n))) (.j (fun R=>Jt lp G call k (rg R q1)) (.s .n (.b (.l _ (Rq lp G call k) (fun R H n=>(rg R q1, rg R q72, rg R q73, rg R q74, H, n)) fun ih112=>.n))) (.j (fun R=>Jq lp G call k (rg R q1)) (.s .n (.b (.l _ (UE lp G call k) (fun R H n=>(rg R q1, rg R q85, rg R q86, rg R q87, H, n)) fun ih86=>.n))) (.j (fun R=>Jw lp G call k (rg R q1)) (.s .n (.b (.l _ (TP lp G call k) (fun R H n=>(rg R q1, rg R ANw, rg R AN6, rg R APO, H, n)) fun ih64=>.n))) (.j (fun R=>O4 lp G call k) (.s .n (.b (.l _ (TF lp G call k) (fun R H n=>(rg R ARA, rg R AQr, rg R AQL, H, n)) fun ih49=>.n))) .n)))))))
theorem YH {lp : Aq} (hL : Dk lp) (G : AL) : O3 G 37 (Jf (MV lp G)) :=
 .mk Sj <| lU hL (an := lJ lp G) (fun _ _ => obs (by kernel_rfl)) fun call a0 H n k => by kernel_rfl
def dP (lp : Aq) (G : AL) (call : AV) (k : KV) : An := (.s .n (.s .n (.j (fun R=>Lu lp G call k) (.s .n (.b (.l _ (J7 lp G call k) (fun R H n=>(rg R q1, rg R q30, rg R q31, rg R q32, H, n)) fun ih24=>(.s .n (.s .n (.j (fun R=>Dz lp G call k ih24 (rg R q1) (rg R q30) (rg R q31) (rg R q32)) (.b (.s .n (.s .n (.s .n (.j (fun R=>Dy lp G call k ih24 (rg R q1) (rg R q4) (rg R q6) (rg R q30) (rg R q31) (rg R q32)) .n (.s .n (.s .n (.b (.l _ (J8 lp G call k ih24) (fun R H n=>(rg R q1, rg R q4, rg R q30, rg R q31, rg R q32, rg R q83, rg R q84, rg R q85, H, n)) fun ih71=>.n))))))))) .n)))))) .n)))
theorem Uk {lp : Aq} (hL : Dk lp) (G : AL) : O3 G 38 (Jf (IL lp G)) :=
 .mk O1 <| lU hL (an := dP lp G) (fun _ _ => obs (by kernel_rfl)) fun call a0 H n k => by kernel_rfl
def ABL (lp : Aq) (G : AL) (call : AV) (k : KV) : An := (.s .n (.s .n (.j (fun R=>XL lp G call k (rg R q3)) (.s .n (.b (.l _ (aV lp G call k) (fun R H n=>(rg R q3, rg R q10, rg R q11, rg R q12, H, n)) fun ih7=>.n))) .n)))
theorem og {lp : Aq} (hL : Dk lp) (G : AL) : O3 G 39 (Jf (WC lp G)) :=
 .mk Zh <| lU hL (an := ABL lp G) (fun _ _ => obs (by kernel_rfl)) fun call a0 H n k => by kernel_rfl
def dF (lp : Aq) (G : AL) (call : AV) (k : KV) : An := (.s .n (.s .n (.s .n (.s .n (.s .n (.s .n (.j (fun R=>Hu lp G call k (rg R q0) (rg R q5)) (.s .n (.b (.l _ (Jz lp G call k) (fun R H n=>(rg R q0, rg R q5, rg R q67, rg R q68, rg R q69, H, n)) fun ih74=>.n))) (.j (fun R=>LY lp G call k) (.s .n (.b (.l _ (QK lp G call k) (fun R H n=>(rg R q0, rg R q5, rg R q92, rg R q93, rg R q94, H, n)) fun ih37=>.n))) .n))))))))
theorem Us {lp : Aq} (hL : Dk lp) (G : AL) : O3 G 40 (Rf (IJ lp G)) :=
 .mk Oi <| sf2 hL (an := dF lp G) (fun _ _ => obs (by kernel_rfl)) fun call a0 a1 H n k => by kernel_rfl
def iG (lp : Aq) (G : AL) (call : AV) (k : KV) : An := (.s .n (.j (fun R=>Nz lp G call k (rg R q0) (rg R q3)) (.s .n (.b (.l _ (Qb lp G call k) (fun R H n=>(rg R q0, rg R q3, rg R q17, rg R q18, rg R q19, H, n)) fun ih61=>.n))) (.s .n (.j (fun R=>Ik lp G call k (rg R q0) (rg R q3)) (.s .n (.b (.l _ (L9 lp G call k) (fun R H n=>(rg R q0, rg R q3, rg R q42, rg R q43, rg R q44, H, n)) fun ih30=>.n))) (.j (fun R=>NK lp G call k) (.s .n (.b (.l _ (Qh lp G call k) (fun R H n=>(rg R q0, rg R q73, rg R q74, rg R q75, H, n)) fun ih15=>.n))) .n)))))
theorem VU {lp : Aq} (hL : Dk lp) (G : AL) : O3 G 41 (Rf (JD lp G)) :=
 .mk Pn <| sf2 hL (an := iG lp G) (fun _ _ => obs (by kernel_rfl)) fun call a0 a1 H n k => by kernel_rfl
def iT (lp : Aq) (G : AL) (call : AV) (k : KV) : An := .n
theorem VR {lp : Aq} (hL : Dk lp) (G : AL) : O3 G 42 (Rf (JL lp G)) :=
 .mk Pm <| sf2 hL (an := iT lp G) (fun _ _ => obs (by kernel_rfl)) fun call a0 a1 H n k => by kernel_rfl
def dS (lp : Aq) (G : AL) (call : AV) (k : KV) : An := (.s .n (.s .n (.j (fun R=>Nh lp G call k (rg R q7)) (.s .n (.b (.l _ (Qj lp G call k) (fun R H n=>(rg R q0, rg R q2, rg R q7, rg R q23, rg R q24, rg R q25, H, n)) fun ih9=>.n))) .n)))
theorem Ux {lp : Aq} (hL : Dk lp) (G : AL) : O3 G 43 (ar3 (IZ lp G)) :=
 .mk Ol <| sf3 hL (an := dS lp G) (fun _ _ => obs (by kernel_rfl)) fun call a0 a1 a2 H n k => by kernel_rfl
def dG (lp : Aq) (G : AL) (call : AV) (k : KV) : An := (.s .n (.j (fun R=>NP lp G call k (rg R q4)) (.s .n (.b (.l _ (RN lp G call k) (fun R H n=>(rg R q1, rg R q4, rg R q9, rg R q10, rg R q11, H, n)) fun ih9=>.n))) .n))
theorem Uo {lp : Aq} (hL : Dk lp) (G : AL) : O3 G 44 (Rf (Ib lp G)) :=
 .mk Oy <| sf2 hL (an := dG lp G) (fun _ _ => obs (by kernel_rfl)) fun call a0 a1 H n k => by kernel_rfl
def l9 (lp : Aq) (G : AL) (call : AV) (k : KV) : An := .n
theorem YG {lp : Aq} (hL : Dk lp) (G : AL) : O3 G 45 (Rf (MJ lp G)) :=
 .mk SV <| sf2 hL (an := l9 lp G) (fun _ _ => obs (by kernel_rfl)) fun call a0 a1 H n k => by kernel_rfl
def Qs (lp : Aq) (G : AL) (call : AV) (k : KV) : An := .n
theorem I4 {lp : Aq} (hL : Dk lp) (G : AL) : O3 G 46 (Rf (Cc lp G)) :=
 .mk Ew <| sf2 hL (an := Qs lp G) (fun _ _ => obs (by kernel_rfl)) fun call a0 a1 H n k => by kernel_rfl
def dL (lp : Aq) (G : AL) (call : AV) (k : KV) : An := (.s .n (.j (fun R=>ND lp G call k) (.s .n (.b (.l _ (Qr lp G call k) (fun R H n=>(rg R q0, rg R q9, rg R q10, rg R q11, H, n)) fun ih3=>(.s .n (.s .n (.j (fun R=>Fe lp G call k ih3 (rg R q0) (rg R q9) (rg R q10) (rg R q11)) .n .n)))))) .n))
theorem Ua {lp : Aq} (hL : Dk lp) (G : AL) : O3 G 47 (Rf (Ic lp G)) :=
 .mk O0 <| sf2 hL (an := dL lp G) (fun _ _ => obs (by kernel_rfl)) fun call a0 a1 H n k => by kernel_rfl
def ZW (lp : Aq) (G : AL) (call : AV) (k : KV) : An := (.s .n (.s .n (.s .n (.j (fun R=>EZ lp G call k (rg R q0) (rg R q3) (rg R q4)) .n (.s .n (.s .n (.s .n (.j (fun R=>Jc lp G call k) (.b (.l _ (Iq lp G call k) (fun R H n=>(rg R q0, H, n)) fun ih30=>.n)) .n))))))))
theorem Ri {lp : Aq} (hL : Dk lp) (G : AL) : O3 G 49 (Jf (GR lp G)) :=
 .mk NI <| lU hL (an := ZW lp G) (fun _ _ => obs (by kernel_rfl)) fun call a0 H n k => by kernel_rfl
def AFP (lp : Aq) (G : AL) (call : AV) (k : KV) : An := .n
theorem yH {lp : Aq} (hL : Dk lp) (G : AL) : O3 G 50 (Jf (Zc lp G)) :=
 .mk lZ <| lU hL (an := AFP lp G) (fun _ _ => obs (by kernel_rfl)) fun call a0 H n k => by kernel_rfl
def Zq (lp : Aq) (G : AL) (call : AV) (k : KV) : An := (.s .n (.s .n (.j (fun R=>L6 lp G call k (rg R q9)) (.s .n (.b (.l _ (QD lp G call k) (fun R H n=>(rg R q0, rg R q2, rg R q3, rg R q9, rg R q25, rg R q26, rg R q27, H, n)) fun ih9=>.n))) .n)))
theorem UD {lp : Aq} (hL : Dk lp) (G : AL) : O3 G 53 (ar4 (Gt lp G)) :=
 .mk OI <| sf4 hL (an := Zq lp G) (fun _ _ => obs (by kernel_rfl)) fun call a0 a1 a2 a3 H n k => by kernel_rfl
def mO (lp : Aq) (G : AL) (call : AV) (k : KV) : An := .n
theorem Xk {lp : Aq} (hL : Dk lp) (G : AL) : O3 G 56 (Jf (MQ lp G)) :=
 .mk SK <| lU hL (an := mO lp G) (fun _ _ => obs (by kernel_rfl)) fun call a0 H n k => by kernel_rfl
def nM (lp : Aq) (G : AL) (call : AV) (k : KV) : An := (.s .n (.s .n (.j (fun R=>Ox lp G call k (rg R q1)) (.s .n (.b (.l _ (Td lp G call k) (fun R H n=>(rg R q1, rg R q32, rg R q33, rg R q34, H, n)) fun ih66=>.n))) (.j (fun R=>Ov lp G call k) (.s .n (.b (.l _ (TL lp G call k) (fun R H n=>(rg R q51, rg R q52, rg R q53, H, n)) fun ih26=>(.s .n (.s .n (.j (fun R=>O5 lp G call k ih26 (rg R q51) (rg R q52) (rg R q53)) (.b (.s .n (.s .n (.s .n (.b (.l _ (TM lp G call k ih26) (fun R H n=>(rg R q51, rg R q52, rg R q53, rg R q75, rg R q76, rg R q77, H, n)) fun ih52=>.n)))))) .n)))))) .n))))
theorem X9 {lp : Aq} (hL : Dk lp) (G : AL) : O3 G 57 (Jf (MW lp G)) :=
 .mk Si <| lU hL (an := nM lp G) (fun _ _ => obs (by kernel_rfl)) fun call a0 H n k => by kernel_rfl
def iW (lp : Aq) (G : AL) (call : AV) (k : KV) : An := (.s .n (.s .n (.s .n (.j (fun R=>Na lp G call k (rg R q1)) (.s .n (.b (.l _ (IB lp G call k) (fun R H n=>(rg R q1, rg R q3, rg R q50, rg R q51, rg R q52, H, n)) fun ih77=>.n))) (.s .n (.j (fun R=>Nb lp G call k) (.s .n (.b (.l _ (Lj lp G call k) (fun R H n=>(rg R q3, rg R q76, rg R q77, rg R q78, H, n)) fun ih43=>.n))) .n))))))
theorem Vx {lp : Aq} (hL : Dk lp) (G : AL) : O3 G 58 (Jf (JJ lp G)) :=
 .mk P6 <| lU hL (an := iW lp G) (fun _ _ => obs (by kernel_rfl)) fun call a0 H n k => by kernel_rfl
def dB (lp : Aq) (G : AL) (call : AV) (k : KV) : An := (.s .n (.j (fun R=>NV lp G call k (rg R q1)) (.s .n (.b (.l _ (KT lp G call k) (fun R H n=>(rg R q1, rg R q28, rg R q29, rg R q30, H, n)) fun ih97=>.n))) (.j (fun R=>NZ lp G call k (rg R q1)) (.s .n (.b (.l _ (KJ lp G call k) (fun R H n=>(rg R q1, rg R q38, rg R q39, rg R q40, H, n)) fun ih73=>.n))) (.j (fun R=>NT lp G call k (rg R q1)) (.s .n (.b (.l _ (J3 lp G call k) (fun R H n=>(rg R q1, rg R q49, rg R q50, rg R q51, H, n)) fun ih60=>.n))) (.j (fun R=>NH lp G call k (rg R q1)) (.s .n (.b (.l _ (KU lp G call k) (fun R H n=>(rg R q1, rg R q60, rg R q61, rg R q62, H, n)) fun ih29=>.n))) (.j (fun R=>NG lp G call k) (.s .n (.b (.l _ (KH lp G call k) (fun R H n=>(rg R q92, rg R q93, rg R q94, H, n)) fun ih10=>.n))) .n))))))
theorem Um {lp : Aq} (hL : Dk lp) (G : AL) : O3 G 59 (Jf (IQ lp G)) :=
 .mk Og <| lU hL (an := dB lp G) (fun _ _ => obs (by kernel_rfl)) fun call a0 H n k => by kernel_rfl
def jW (lp : Aq) (G : AL) (call : AV) (k : KV) : An := .n
theorem Wl {lp : Aq} (hL : Dk lp) (G : AL) : O3 G 60 (Rf (KW lp G)) :=
 .mk RV <| sf2 hL (an := jW lp G) (fun _ _ => obs (by kernel_rfl)) fun call a0 a1 H n k => by kernel_rfl
def iC (lp : Aq) (G : AL) (call : AV) (k : KV) : An := .n
theorem VT {lp : Aq} (hL : Dk lp) (G : AL) : O3 G 61 (Rf (JO lp G)) :=
 .mk QB <| sf2 hL (an := iC lp G) (fun _ _ => obs (by kernel_rfl)) fun call a0 a1 H n k => by kernel_rfl
def wM (lp : Aq) (G : AL) (call : AV) (k : KV) : An := (.s .n (.j (fun R=>PV lp G call k (rg R q1)) (.s .n (.b (.l _ (XB lp G call k) (fun R H n=>(rg R q1, rg R q7, rg R q8, H, n)) fun ih29=>.n))) (.j (fun R=>UR lp G call k) (.s .n (.b (.l _ (YB lp G call k) (fun R H n=>(rg R q1, rg R q32, rg R q33, H, n)) fun ih7=>.n))) .n)))
theorem eY {lp : Aq} (hL : Dk lp) (G : AL) : O3 G 62 (Jf (Qq lp G)) :=
 .mk XJ <| lU hL (an := wM lp G) (fun _ _ => obs (by kernel_rfl)) fun call a0 H n k => by kernel_rfl
def iP (lp : Aq) (G : AL) (call : AV) (k : KV) : An := (.s .n (.j (fun R=>N8 lp G call k (rg R q4)) (.s .n (.b (.l _ (Ro lp G call k) (fun R H n=>(rg R q1, rg R q4, rg R q9, rg R q10, rg R q11, H, n)) fun ih9=>.n))) .n))
theorem VO {lp : Aq} (hL : Dk lp) (G : AL) : O3 G 63 (Rf (I8 lp G)) :=
 .mk QA <| sf2 hL (an := iP lp G) (fun _ _ => obs (by kernel_rfl)) fun call a0 a1 H n k => by kernel_rfl
def QT (lp : Aq) (G : AL) (call : AV) (k : KV) : An := (.s .n (.s .n (.j (fun R=>EO lp G call k) (.s .n (.b (.l _ (Gy lp G call k) (fun R H n=>(rg R q0, rg R q1, rg R q12, rg R q13, H, n)) fun ih6=>.n))) .n)))
theorem Ip {lp : Aq} (hL : Dk lp) (G : AL) : O3 G 64 (Rf (CY lp G)) :=
 .mk Ef <| sf2 hL (an := QT lp G) (fun _ _ => obs (by kernel_rfl)) fun call a0 a1 H n k => by kernel_rfl
def Ti (lp : Aq) (G : AL) (call : AV) (k : KV) : An := (.s .n (.j (fun R=>FC lp G call k) (.s .n (.b (.l _ (Iy lp G call k) (fun R H n=>(rg R q0, rg R q1, rg R q7, rg R q8, H, n)) fun ih3=>.n))) .n))
theorem Kv {lp : Aq} (hL : Dk lp) (G : AL) : O3 G 65 (Rf (DI lp G)) :=
 .mk GK <| sf2 hL (an := Ti lp G) (fun _ _ => obs (by kernel_rfl)) fun call a0 a1 H n k => by kernel_rfl
def AAG (lp : Aq) (G : AL) (call : AV) (k : KV) : An := .n
theorem jR {lp : Aq} (hL : Dk lp) (G : AL) : O3 G 66 (Jf (TY lp G)) :=
 .mk YO <| lU hL (an := AAG lp G) (fun _ _ => obs (by kernel_rfl)) fun call a0 H n k => by kernel_rfl
def kL (lp : Aq) (G : AL) (call : AV) (k : KV) : An := .n
theorem Wx {lp : Aq} (hL : Dk lp) (G : AL) : O3 G 67 (Jf (J4 lp G)) :=
 .mk Qw <| lU hL (an := kL lp G) (fun _ _ => obs (by kernel_rfl)) fun call a0 H n k => by kernel_rfl
def Yk (lp : Aq) (G : AL) (call : AV) (k : KV) : An := (.s .n (.s .n (.s .n (.s .n (.s .n (.s .n (.j (fun R=>FK lp G call k (rg R q0) (rg R q1) (rg R q5) (rg R q7) (rg R q9)) (.s .n (.b (.l _ (Eu lp G call k) (fun R H n=>(rg R q0, rg R q1, rg R q5, rg R q7, rg R q9, rg R q63, rg R q64, rg R q65, H, n)) fun ih93=>.n))) (.j (fun R=>EC lp G call k (rg R q0) (rg R q1) (rg R q9)) (.s .n (.b (.l _ (IU lp G call k) (fun R H n=>(rg R q0, rg R q1, rg R q7, rg R q9, rg R ANw, rg R AN6, rg R APO, H, n)) fun ih53=>.n))) (.j (fun R=>FI lp G call k) .n .n)))))))))
theorem RX {lp : Aq} (hL : Dk lp) (G : AL) : O3 G 70 (ar3 (Fa lp G)) :=
 .mk Lm <| sf3 hL (an := Yk lp G) (fun _ _ => obs (by kernel_rfl)) fun call a0 a1 a2 H n k => by kernel_rfl
def ZU (lp : Aq) (G : AL) (call : AV) (k : KV) : An := .n
theorem Ru {lp : Aq} (hL : Dk lp) (G : AL) : O3 G 71 (Jf (GY lp G)) :=
 .mk Me <| lU hL (an := ZU lp G) (fun _ _ => obs (by kernel_rfl)) fun call a0 H n k => by kernel_rfl
def Yp (lp : Aq) (G : AL) (call : AV) (k : KV) : An := (.s .n (.s .n (.s (.s .n (.b (.s .n (.c .n (.s .n (.c .n (.s .n (.c .n (.s .n (.c .n (.s .n (.c .n (.j (fun R=>BN lp G call k (rg R q0) (rg R q1) (rg R q5) (rg R q7) (rg R q8) (rg R q20) (rg R q80)) .n (.c .n (.j (fun R=>CS lp G call k (rg R q0) (rg R q1) (rg R q5) (rg R q7) (rg R q8) (rg R q20) (rg R q98)) .n (.c .n (.s .n (.c .n (.s .n (.c .n (.j (fun R=>CU lp G call k (rg R q0) (rg R q1) (rg R q5) (rg R q7) (rg R q8) (rg R q20) (rg R AQ8)) .n .n))))))))))))))))))))) .n)))
theorem Qa {lp : Aq} (hL : Dk lp) (G : AL) : O3 G 72 (ar3 (FW lp G)) :=
 .mk Lp <| sf3 hL (an := Yp lp G) (fun _ _ => obs (by kernel_rfl)) fun call a0 a1 a2 H n k => by kernel_rfl
def YI (lp : Aq) (G : AL) (call : AV) (k : KV) : An := .n
theorem QH {lp : Aq} (hL : Dk lp) (G : AL) : O3 G 73 (ar3 (Ei lp G)) :=
 .mk KO <| sf3 hL (an := YI lp G) (fun _ _ => obs (by kernel_rfl)) fun call a0 a1 a2 H n k => by kernel_rfl
def iK (lp : Aq) (G : AL) (call : AV) (k : KV) : An := .n
theorem Vo {lp : Aq} (hL : Dk lp) (G : AL) : O3 G 77 (ar3 (JV lp G)) :=
 .mk Pg <| sf3 hL (an := iK lp G) (fun _ _ => obs (by kernel_rfl)) fun call a0 a1 a2 H n k => by kernel_rfl
def ACC (lp : Aq) (G : AL) (call : AV) (k : KV) : An := .n
theorem pJ {lp : Aq} (hL : Dk lp) (G : AL) : O3 G 79 (ar0 (WE lp G)) :=
 .mk Zr <| sf0 hL (an := ACC lp G) (fun _ _ => obs (by kernel_rfl)) fun call  H n k => by kernel_rfl
def uT (lp : Aq) (G : AL) (call : AV) (k : KV) : An := .n
theorem bD {lp : Aq} (hL : Dk lp) (G : AL) : O3 G 81 (ar0 (PK lp G)) :=
 .mk VI <| sf0 hL (an := uT lp G) (fun _ _ => obs (by kernel_rfl)) fun call  H n k => by kernel_rfl
def iI (lp : Aq) (G : AL) (call : AV) (k : KV) : An := .n
theorem Ve {lp : Aq} (hL : Dk lp) (G : AL) : O3 G 82 (Jf (JM lp G)) :=
 .mk P7 <| lU hL (an := iI lp G) (fun _ _ => obs (by kernel_rfl)) fun call a0 H n k => by kernel_rfl
def mQ (lp : Aq) (G : AL) (call : AV) (k : KV) : An := .n
theorem X5 {lp : Aq} (hL : Dk lp) (G : AL) : O3 G 83 (Jf (MH lp G)) :=
 .mk SY <| lU hL (an := mQ lp G) (fun _ _ => obs (by kernel_rfl)) fun call a0 H n k => by kernel_rfl
def NU (lp : Aq) (G : AL) (call : AV) (k : KV) : An := .n
theorem FV {lp : Aq} (hL : Dk lp) (G : AL) : O3 G 90 (Rf (BZ lp G)) :=
 .mk DX <| sf2 hL (an := NU lp G) (fun _ _ => obs (by kernel_rfl)) fun call a0 a1 H n k => by kernel_rfl
def Zi (lp : Aq) (G : AL) (call : AV) (k : KV) : An := .n
theorem Tc {lp : Aq} (hL : Dk lp) (G : AL) : O3 G 91 (Jf (Gs lp G)) :=
 .mk OC <| lU hL (an := Zi lp G) (fun _ _ => obs (by kernel_rfl)) fun call a0 H n k => by kernel_rfl
def vX (lp : Aq) (G : AL) (call : AV) (k : KV) : An := .n
theorem Zn {lp : Aq} (hL : Dk lp) (G : AL) : O3 G 92 (Jf (PN lp G)) :=
 .mk V4 <| lU hL (an := vX lp G) (fun _ _ => obs (by kernel_rfl)) fun call a0 H n k => by kernel_rfl
def AAO (lp : Aq) (G : AL) (call : AV) (k : KV) : An := .n
theorem jw {lp : Aq} (hL : Dk lp) (G : AL) : O3 G 93 (Jf (Tj lp G)) :=
 .mk Yx <| lU hL (an := AAO lp G) (fun _ _ => obs (by kernel_rfl)) fun call a0 H n k => by kernel_rfl
def Z5 (lp : Aq) (G : AL) (call : AV) (k : KV) : An := .n
theorem TW {lp : Aq} (hL : Dk lp) (G : AL) : O3 G 94 (ar3 (Hq lp G)) :=
 .mk N7 <| sf3 hL (an := Z5 lp G) (fun _ _ => obs (by kernel_rfl)) fun call a0 a1 a2 H n k => by kernel_rfl
def sF (lp : Aq) (G : AL) (call : AV) (k : KV) : An := (.s .n (.j (fun R=>KD lp G call k (rg R q6)) .n .n))
theorem aF {lp : Aq} (hL : Dk lp) (G : AL) : O3 G 95 (ar3 (PD lp G)) :=
 .mk V8 <| sf3 hL (an := sF lp G) (fun _ _ => obs (by kernel_rfl)) fun call a0 a1 a2 H n k => by kernel_rfl
def QW (lp : Aq) (G : AL) (call : AV) (k : KV) : An := .n
theorem Il {lp : Aq} (hL : Dk lp) (G : AL) : O3 G 96 (Jf (CX lp G)) :=
 .mk Eh <| lU hL (an := QW lp G) (fun _ _ => obs (by kernel_rfl)) fun call a0 H n k => by kernel_rfl
def YV (lp : Aq) (G : AL) (call : AV) (k : KV) : An := .n
theorem RI {lp : Aq} (hL : Dk lp) (G : AL) : O3 G 97 (ar3 (Fp lp G)) :=
 .mk Ll <| sf3 hL (an := YV lp G) (fun _ _ => obs (by kernel_rfl)) fun call a0 a1 a2 H n k => by kernel_rfl
def aH (lp : Aq) (G : AL) (call : AV) (k : KV) : An := .n
theorem Tf {lp : Aq} (hL : Dk lp) (G : AL) : O3 G 98 (Jf (Hg lp G)) :=
 .mk OB <| lU hL (an := aH lp G) (fun _ _ => obs (by kernel_rfl)) fun call a0 H n k => by kernel_rfl
def ZQ (lp : Aq) (G : AL) (call : AV) (k : KV) : An := (.s .n (.j (fun R=>KF lp G call k) (.s .n (.b (.l _ (O6 lp G call k) (fun R H n=>(rg R q0, rg R q1, rg R q2, rg R q7, H, n)) fun ih4=>.n))) .n))
theorem Rj {lp : Aq} (hL : Dk lp) (G : AL) : O3 G 99 (ar3 (F9 lp G)) :=
 .mk Mc <| sf3 hL (an := ZQ lp G) (fun _ _ => obs (by kernel_rfl)) fun call a0 a1 a2 H n k => by kernel_rfl
def XH (lp : Aq) (G : AL) (call : AV) (k : KV) : An := (.s .n (.s (.s .n (.b (.s .n (.c .n (.s .n (.c .n (.j (fun R=>CZ lp G call k (rg R q0) (rg R q1) (rg R q5) (rg R q14) (rg R q66)) .n (.c (.s .n (.s .n (.j (fun R=>Bq lp G call k (rg R q0) (rg R q1) (rg R q7) (rg R q8) (rg R q9)) .n .n))) (.s .n (.c .n (.s .n (.c .n (.j (fun R=>CW lp G call k (rg R q0) (rg R q1) (rg R q5) (rg R AQn)) .n .n))))))))))))) .n))
theorem PL {lp : Aq} (hL : Dk lp) (G : AL) : O3 G 100 (ar3 (Eb lp G)) :=
 .mk Je <| sf3 hL (an := XH lp G) (fun _ _ => obs (by kernel_rfl)) fun call a0 a1 a2 H n k => by kernel_rfl
def dU (lp : Aq) (G : AL) (call : AV) (k : KV) : An := .n
theorem Uj {lp : Aq} (hL : Dk lp) (G : AL) : O3 G 103 (ar3 (IV lp G)) :=
 .mk Oj <| sf3 hL (an := dU lp G) (fun _ _ => obs (by kernel_rfl)) fun call a0 a1 a2 H n k => by kernel_rfl
def OU (lp : Aq) (G : AL) (call : AV) (k : KV) : An := (.s .n (.j (fun R=>Dj lp G call k) (.s .n (.b (.l _ (FP lp G call k) (fun R H n=>(rg R q0, rg R q1, rg R q7, rg R q8, H, n)) fun ih3=>.n))) .n))
theorem GZ {lp : Aq} (hL : Dk lp) (G : AL) : O3 G 108 (Rf (Bl lp G)) :=
 .mk D6 <| sf2 hL (an := OU lp G) (fun _ _ => obs (by kernel_rfl)) fun call a0 a1 H n k => by kernel_rfl
def aN (lp : Aq) (G : AL) (call : AV) (k : KV) : An := (.s .n (.s .n (.j (fun R=>L8 lp G call k) (.s .n (.b (.l _ (QE lp G call k) (fun R H n=>(rg R q0, rg R q2, rg R q17, rg R q18, rg R q19, H, n)) fun ih6=>.n))) .n)))
theorem TV {lp : Aq} (hL : Dk lp) (G : AL) : O3 G 109 (ar3 (Ho lp G)) :=
 .mk OE <| sf3 hL (an := aN lp G) (fun _ _ => obs (by kernel_rfl)) fun call a0 a1 a2 H n k => by kernel_rfl
def YM (lp : Aq) (G : AL) (call : AV) (k : KV) : An := .n
theorem QC {lp : Aq} (hL : Dk lp) (G : AL) : O3 G 110 (ar3 (E5 lp G)) :=
 .mk Jy <| sf3 hL (an := YM lp G) (fun _ _ => obs (by kernel_rfl)) fun call a0 a1 a2 H n k => by kernel_rfl
def FS (lp : Aq) (G : AL) : T SF := (.n none (.n none (.n none (.n none (.n none (.n (some (Rf (fB lp G))) (.n (some (Rf (I8 lp G))) .e .e) (.n (some (ar3 (PD lp G))) .e .e)) (.n (some (Rf (Ic lp G))) (.n (some (ar0 (WE lp G))) .e .e) .e)) (.n none (.n (some (Jf (WC lp G))) (.n (some (Jf (GY lp G))) .e .e) (.n (some (ar3 (IV lp G))) .e .e)) .e)) (.n none (.n (some (Rf (Ia lp G))) (.n (some (Jf (GU lp G))) (.n (some (Jf (J4 lp G))) .e .e) (.n (some (ar3 (F9 lp G))) .e .e)) (.n none (.n (some (Jf (MH lp G))) .e .e) .e)) (.n none (.n (some (ar3 (IZ lp G))) .e .e) (.n (some (Jf (IQ lp G))) (.n (some (Jf (Gs lp G))) .e .e) .e)))) (.n none (.n none (.n (some (Rf (JC lp G))) (.n (some (ar3 (Y5 lp G))) (.n (some (Rf (DI lp G))) .e .e) (.n (some (ar3 (Fp lp G))) .e .e)) (.n (some (Jf (GR lp G))) (.n (some (ar0 (PK lp G))) .e .e) .e)) (.n (some (ar0 (Xh lp G))) (.n (some (Rf (JD lp G))) (.n (some (ar3 (Ei lp G))) .e .e) .e) (.n (some (Jf (MW lp G))) .e .e))) (.n (some (Jf (MP lp G))) (.n (some (Rf (Iz lp G))) (.n (some (Jf (MV lp G))) .e .e) (.n (some (ar4 (Gt lp G))) .e .e)) (.n (some (ar0 (X7 lp G))) (.n (some (Rf (MJ lp G))) (.n (some (ar3 (JV lp G))) .e .e) (.n (some (ar3 (Ho lp G))) .e .e)) (.n (some (Rf (JO lp G))) (.n (some (Jf (Tj lp G))) .e .e) .e))))) (.n none (.n none (.n none (.n none (.n (some (Jf (JH lp G))) (.n (some (Rf (CY lp G))) .e .e) (.n (some (Jf (CX lp G))) .e .e)) .e) (.n none (.n (some (Rf (IJ lp G))) (.n (some (ar3 (FW lp G))) .e .e) .e) (.n (some (Jf (MQ lp G))) .e .e))) (.n none (.n none (.n none .e (.n (some (ar3 (Eb lp G))) .e .e)) .e) (.n none (.n (some (Rf (Ib lp G))) .e (.n (some (Rf (Bl lp G))) .e .e)) (.n (some (Rf (KW lp G))) (.n (some (Jf (PN lp G))) .e .e) .e)))) (.n none (.n (some (ar5 (Ep lp G))) (.n (some (Jf (IX lp G))) (.n (some (Jf (OD lp G))) (.n (some (Jf (TY lp G))) .e .e) (.n (some (Jf (Hg lp G))) .e .e)) (.n (some (Jf (Zc lp G))) (.n (some (Jf (JM lp G))) .e .e) .e)) (.n (some (Jf (OM lp G))) (.n (some (Rf (JL lp G))) .e .e) (.n (some (Jf (JJ lp G))) (.n (some (Rf (BZ lp G))) .e .e) .e))) (.n (some (Jf (TQ lp G))) (.n none (.n (some (Jf (IL lp G))) (.n (some (ar3 (Fa lp G))) .e .e) .e) .e) (.n none (.n (some (Rf (Cc lp G))) .e (.n (some (ar3 (E5 lp G))) .e .e)) (.n (some (Jf (Qq lp G))) (.n (some (ar3 (Hq lp G))) .e .e) .e))))))
theorem AM0 {lp : Aq} (hL : Dk lp) (G : AL) : T.All (fun p s => O3 G p.key s) (FS lp G) := (.n0 (.n0 (.n0 (.n0 (.n0 (.n1 (vM hL G) (.n1 (VO hL G) .e .e) (.n1 (aF hL G) .e .e)) (.n1 (Ua hL G) (.n1 (pJ hL G) .e .e) .e)) (.n0 (.n1 (og hL G) (.n1 (Ru hL G) .e .e) (.n1 (Uj hL G) .e .e)) .e)) (.n0 (.n1 (Ue hL G) (.n1 (UG hL G) (.n1 (Wx hL G) .e .e) (.n1 (Rj hL G) .e .e)) (.n0 (.n1 (X5 hL G) .e .e) .e)) (.n0 (.n1 (Ux hL G) .e .e) (.n1 (Um hL G) (.n1 (Tc hL G) .e .e) .e)))) (.n0 (.n0 (.n1 (WA hL G) (.n1 (mG hL G) (.n1 (Kv hL G) .e .e) (.n1 (RI hL G) .e .e)) (.n1 (Ri hL G) (.n1 (bD hL G) .e .e) .e)) (.n1 (jT hL G) (.n1 (VU hL G) (.n1 (QH hL G) .e .e) .e) (.n1 (X9 hL G) .e .e))) (.n1 (YL hL G) (.n1 (V5 hL G) (.n1 (YH hL G) .e .e) (.n1 (UD hL G) .e .e)) (.n1 (uw hL G) (.n1 (YG hL G) (.n1 (Vo hL G) .e .e) (.n1 (TV hL G) .e .e)) (.n1 (VT hL G) (.n1 (jw hL G) .e .e) .e))))) (.n0 (.n0 (.n0 (.n0 (.n1 (V7 hL G) (.n1 (Ip hL G) .e .e) (.n1 (Il hL G) .e .e)) .e) (.n0 (.n1 (Us hL G) (.n1 (Qa hL G) .e .e) .e) (.n1 (Xk hL G) .e .e))) (.n0 (.n0 (.n0 .e (.n1 (PL hL G) .e .e)) .e) (.n0 (.n1 (Uo hL G) .e (.n1 (GZ hL G) .e .e)) (.n1 (Wl hL G) (.n1 (Zn hL G) .e .e) .e)))) (.n0 (.n1 (QM hL G) (.n1 (Ug hL G) (.n1 (Y4 hL G) (.n1 (jR hL G) .e .e) (.n1 (Tf hL G) .e .e)) (.n1 (yH hL G) (.n1 (Ve hL G) .e .e) .e)) (.n1 (Yz hL G) (.n1 (VR hL G) .e .e) (.n1 (Vx hL G) (.n1 (FV hL G) .e .e) .e))) (.n1 (kJ hL G) (.n0 (.n1 (Uk hL G) (.n1 (RX hL G) .e .e) .e) .e) (.n0 (.n1 (I4 hL G) .e (.n1 (QC hL G) .e .e)) (.n1 (eY hL G) (.n1 (TW hL G) .e .e) .e))))))
theorem ANo {lp : Aq} (hL : Dk lp) (G : AL) : AHo F G (FS lp G) := fun f s h => by
 have := T.All.C9 (p := MG f) (AM0 hL G) h
 rw [qU] at this
 obtain ⟨h, o⟩ := this
 exact ⟨_, h, o⟩
end Go.RL
