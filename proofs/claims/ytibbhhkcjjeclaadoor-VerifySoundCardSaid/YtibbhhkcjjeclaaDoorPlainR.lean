/- Part of a proof; nothing is assumed. -/
import Derived.Test.YtibbhhkcjjeclaaDoorPlain
import Derived.Test.YtibbhhkcjjeclaaDoorCode
import Derived.Test.YtibbhhkcjjeclaaDoorEngE
set_option linter.unusedVariables false
set_option linter.unusedSimpArgs false
noncomputable section
namespace Go.RL
open Go.Bv
set_option maxRecDepth 100000
abbrev Ta:=Eo->AX->Ap->KV->An
inductive Oc(G:AX)(n:Nat)(s:SF):Prop where
 |mk {af:AF} (h:T.get F n=some af) (o:AC6 G af s):Oc G n s
def bg:Ta:=λlp G c k=>(.s .n (.s .n (.s .n (.s .n (.s .n (.s .n (.j (λR=>Qg lp G c k) (.s .n (.b (.l _ (Pg lp G c k) (λR H n=>(rg R q0,rg R q1,rg R q2,rg R q13,rg R q15,rg R q47,rg R q48,rg R q49,H,n)) λih19=>(.s .n (.s .n (.j (λR=>Gt lp G c k ih19 (rg R q0) (rg R q1) (rg R q2) (rg R q13) (rg R q15) (rg R q47) (rg R q48) (rg R q49)) (.b (.s .n (.s .n (.b (.l _ (Jf lp G c k ih19) (λR H n=>(rg R q0,rg R q1,rg R q2,rg R q13,rg R q15,rg R q17,rg R q47,rg R q48,rg R q49,rg R q55,rg R q56,rg R q57,H,n)) λih31=>(.s .n (.s .n (.j (λR=>Di lp G c k ih19 ih31 (rg R q0) (rg R q1) (rg R q2) (rg R q13) (rg R q15) (rg R q17) (rg R q47) (rg R q48) (rg R q49) (rg R q55) (rg R q56) (rg R q57)) (.b (.s .n (.s .n (.s .n (.j (λR=>Gs lp G c k ih19 ih31 (rg R q0) (rg R q1) (rg R q2) (rg R q13) (rg R q15) (rg R q17) (rg R q19) (rg R q20) (rg R q21) (rg R q47) (rg R q48) (rg R q49) (rg R q55) (rg R q56) (rg R q57)) (.s .n (.b (.l _ (JZ lp G c k ih19 ih31) (λR H n=>(rg R q0,rg R q1,rg R q2,rg R q13,rg R q15,rg R q17,rg R q19,rg R q20,rg R q21,rg R q47,rg R q48,rg R q49,rg R q55,rg R q56,rg R q57,rg R q65,rg R q66,rg R q67,H,n)) λih62=>.n))) .n))))) .n)))))))) .n)))))) .n)))))))
theorem UK{lp:Eo}(hL:Df lp)(G:AX):Oc G 7 (ar6 (Gf lp G)):=
 .mk NK <| sf6 hL (an:=bg lp G) (λ_ _=>obs (by kernel_rfl)) λc a0 a1 a2 a3 a4 a5 H n k=>by kernel_rfl
def xg:Ta:=λlp G c k=>(.s .n (.j (λR=>Ui lp G c k (rg R q0)) (.s .n (.b (.l _ (YU lp G c k) (λR H n=>(rg R q0,rg R q5,rg R q6,rg R q7,H,n)) λih5=>.n))) .n))
theorem fQ{lp:Eo}(hL:Df lp)(G:AX):Oc G 13 (Lu (P9 lp G)):=
 .mk WR <| wR hL (an:=xg lp G) (λ_ _=>obs (by kernel_rfl)) λc a0 H n k=>by kernel_rfl
def AEa:Ta:=λlp G c k=>(.s .n (.s .n (.s .n (.s .n (.j (λR=>Y4 lp G c k (rg R q0) (rg R q4) (rg R q5)) (.s .n (.b (.l _ (fC lp G c k) (λR H n=>(rg R q0,rg R q4,rg R q5,rg R q19,rg R q20,rg R q21,H,n)) λih33=>.n))) (.s .n (.j (λR=>X6 lp G c k (rg R q5)) (.s .n (.b (.l _ (Wj lp G c k) (λR H n=>(rg R q5,rg R q73,rg R q74,rg R q75,H,n)) λih13=>.n))) .n)))))))
theorem wE{lp:Eo}(hL:Df lp)(G:AX):Oc G 14 (Lu (Xe lp G)):=
 .mk iy <| wR hL (an:=AEa lp G) (λ_ _=>obs (by kernel_rfl)) λc a0 H n k=>by kernel_rfl
def sJ:Ta:=λlp G c k=>(.s .n (.s .n (.j (λR=>QE lp G c k) (.s .n (.b (.l _ (Vl lp G c k) (λR H n=>(rg R q0,rg R q3,rg R q24,rg R q25,rg R q26,H,n)) λih12=>.n))) .n)))
theorem Y0{lp:Eo}(hL:Df lp)(G:AX):Oc G 17 (TY (L6 lp G)):=
 .mk Ud <| sf2 hL (an:=sJ lp G) (λ_ _=>obs (by kernel_rfl)) λc a0 a1 H n k=>by kernel_rfl
def qF:Ta:=λlp G c k=>.n
theorem YR{lp:Eo}(hL:Df lp)(G:AX):Oc G 18 (Lu (Ko lp G)):=
 .mk TU <| wR hL (an:=qF lp G) (λ_ _=>obs (by kernel_rfl)) λc a0 H n k=>by kernel_rfl
def pJ:Ta:=λlp G c k=>(.s .n (.s .n (.j (λR=>Qb lp G c k (rg R q6)) (.b (.l _ (VL lp G c k) (λR H n=>(rg R q0,rg R q1,rg R q6,H,n)) λih2=>.n)) .n)))
theorem YG{lp:Eo}(hL:Df lp)(G:AX):Oc G 19 (TY (Ku lp G)):=
 .mk TP <| sf2 hL (an:=pJ lp G) (λ_ _=>obs (by kernel_rfl)) λc a0 a1 H n k=>by kernel_rfl
def sG:Ta:=λlp G c k=>.n
theorem Zz{lp:Eo}(hL:Df lp)(G:AX):Oc G 21 (TY (Lp lp G)):=
 .mk Ub <| sf2 hL (an:=sG lp G) (λ_ _=>obs (by kernel_rfl)) λc a0 a1 H n k=>by kernel_rfl
def wU:Ta:=λlp G c k=>.n
theorem wX{lp:Eo}(hL:Df lp)(G:AX):Oc G 25 (ar0 (fF lp G)):=
 .mk wu <| sf0 hL (an:=wU lp G) (λ_ _=>obs (by kernel_rfl)) λc H n k=>by kernel_rfl
def AAa:Ta:=λlp G c k=>(.s .n (.j (λR=>Vx lp G c k (rg R q2)) (.s .n (.b (.l _ (ZI lp G c k) (λR H n=>(rg R q0,rg R q2,rg R q12,rg R q13,rg R q14,H,n)) λih7=>(.s .n (.s .n (.j (λR=>Qh lp G c k ih7 (rg R q0) (rg R q2) (rg R q12) (rg R q13) (rg R q14)) (.b (.s .n (.s .n (.s .n (.b (.l _ (TD lp G c k ih7) (λR H n=>(rg R q0,rg R q2,rg R q4,rg R q5,rg R q12,rg R q13,rg R q14,rg R q26,rg R q27,rg R q28,H,n)) λih22=>.n)))))) .n)))))) .n))
theorem jZ{lp:Eo}(hL:Df lp)(G:AX):Oc G 26 (Lu (RX lp G)):=
 .mk Xy <| wR hL (an:=AAa lp G) (λ_ _=>obs (by kernel_rfl)) λc a0 H n k=>by kernel_rfl
def qM:Ta:=λlp G c k=>.n
theorem YT{lp:Eo}(hL:Df lp)(G:AX):Oc G 28 (ar3 (LJ lp G)):=
 .mk TV <| sf3 hL (an:=qM lp G) (λ_ _=>obs (by kernel_rfl)) λc a0 a1 a2 H n k=>by kernel_rfl
def AIe:Ta:=λlp G c k=>.n
theorem ABi{lp:Eo}(hL:Df lp)(G:AX):Oc G 29 (ar0 (gI lp G)):=
 .mk rD <| sf0 hL (an:=AIe lp G) (λ_ _=>obs (by kernel_rfl)) λc H n k=>by kernel_rfl
def dB:Ta:=λlp G c k=>(.s .n (.s .n (.s .n (.s .n (.s .n (.j (λR=>J7 lp G c k (rg R q0) (rg R q8) (rg R q12) (rg R q13) (rg R q15)) (.s .n (.b (.l _ (P5 lp G c k) (λR H n=>(rg R q0,rg R q8,rg R q12,rg R q13,rg R q15,rg R q45,rg R q46,rg R q47,H,n)) λih51=>.n))) (.s .n (.j (λR=>Ea lp G c k (rg R q0) (rg R q8) (rg R q18)) .n .n))))))))
theorem UD{lp:Eo}(hL:Df lp)(G:AX):Oc G 30 (ar4 (Gl lp G)):=
 .mk NI <| sf4 hL (an:=dB lp G) (λ_ _=>obs (by kernel_rfl)) λc a0 a1 a2 a3 H n k=>by kernel_rfl
def AA1:Ta:=λlp G c k=>.n
theorem AB8{lp:Eo}(hL:Df lp)(G:AX):Oc G 31 (TY (qY lp G)):=
 .mk AA5 <| sf2 hL (an:=AA1 lp G) (λ_ _=>obs (by kernel_rfl)) λc a0 a1 H n k=>by kernel_rfl
def uU:Ta:=λlp G c k=>.n
theorem uI{lp:Eo}(hL:Df lp)(G:AX):Oc G 32 (Lu (aX lp G)):=
 .mk su <| wR hL (an:=uU lp G) (λ_ _=>obs (by kernel_rfl)) λc a0 H n k=>by kernel_rfl
def y7:Ta:=λlp G c k=>.n
theorem yZ{lp:Eo}(hL:Df lp)(G:AX):Oc G 33 (ar3 (jf lp G)):=
 .mk yg <| sf3 hL (an:=y7 lp G) (λ_ _=>obs (by kernel_rfl)) λc a0 a1 a2 H n k=>by kernel_rfl
def AAd:Ta:=λlp G c k=>.n
theorem je{lp:Eo}(hL:Df lp)(G:AX):Oc G 34 (Lu (RI lp G)):=
 .mk X8 <| wR hL (an:=AAd lp G) (λ_ _=>obs (by kernel_rfl)) λc a0 H n k=>by kernel_rfl
def AAY:Ta:=λlp G c k=>.n
theorem jV{lp:Eo}(hL:Df lp)(G:AX):Oc G 35 (Lu (RY lp G)):=
 .mk X0 <| wR hL (an:=AAY lp G) (λ_ _=>obs (by kernel_rfl)) λc a0 H n k=>by kernel_rfl
def yL:Ta:=λlp G c k=>(.s .n (.s .n (.j (λR=>Nc lp G c k (rg R q1)) (.s .n (.b (.l _ (WG lp G c k) (λR H n=>(rg R q1,rg R q60,rg R q61,rg R q62,H,n)) λih127=>.n))) (.j (λR=>NY lp G c k (rg R q1)) (.s .n (.b (.l _ (WA lp G c k) (λR H n=>(rg R q1,rg R q72,rg R q73,rg R q74,H,n)) λih112=>.n))) (.j (λR=>NZ lp G c k (rg R q1)) (.s .n (.b (.l _ (XL lp G c k) (λR H n=>(rg R q1,rg R q85,rg R q86,rg R q87,H,n)) λih86=>.n))) (.j (λR=>NV lp G c k (rg R q1)) (.s .n (.b (.l _ (XE lp G c k) (λR H n=>(rg R q1,rg R ATb,rg R AUK,rg R ATT,H,n)) λih64=>.n))) (.j (λR=>TM lp G c k) (.s .n (.b (.l _ (Xi lp G c k) (λR H n=>(rg R AV7,rg R AVj,rg R AVV,H,n)) λih49=>.n))) .n)))))))
theorem fO{lp:Eo}(hL:Df lp)(G:AX):Oc G 37 (Lu (PY lp G)):=
 .mk WS <| wR hL (an:=yL lp G) (λ_ _=>obs (by kernel_rfl)) λc a0 H n k=>by kernel_rfl
def qQ:Ta:=λlp G c k=>(.s .n (.s .n (.j (λR=>PD lp G c k) (.s .n (.b (.l _ (N9 lp G c k) (λR H n=>(rg R q1,rg R q30,rg R q31,rg R q32,H,n)) λih24=>(.s .n (.s .n (.j (λR=>FH lp G c k ih24 (rg R q1) (rg R q30) (rg R q31) (rg R q32)) (.b (.s .n (.s .n (.s .n (.j (λR=>FN lp G c k ih24 (rg R q1) (rg R q4) (rg R q6) (rg R q30) (rg R q31) (rg R q32)) .n (.s .n (.s .n (.b (.l _ (OV lp G c k ih24) (λR H n=>(rg R q1,rg R q4,rg R q30,rg R q31,rg R q32,rg R q83,rg R q84,rg R q85,H,n)) λih71=>.n))))))))) .n)))))) .n)))
theorem YQ{lp:Eo}(hL:Df lp)(G:AX):Oc G 38 (Lu (KO lp G)):=
 .mk Sr <| wR hL (an:=qQ lp G) (λ_ _=>obs (by kernel_rfl)) λc a0 H n k=>by kernel_rfl
def AHT:Ta:=λlp G c k=>(.s .n (.s .n (.j (λR=>dW lp G c k (rg R q3)) (.s .n (.b (.l _ (nM lp G c k) (λR H n=>(rg R q3,rg R q10,rg R q11,rg R q12,H,n)) λih7=>.n))) .n)))
theorem zN{lp:Eo}(hL:Df lp)(G:AX):Oc G 39 (Lu (Za lp G)):=
 .mk nJ <| wR hL (an:=AHT lp G) (λ_ _=>obs (by kernel_rfl)) λc a0 H n k=>by kernel_rfl
def pz:Ta:=λlp G c k=>(.s .n (.s .n (.s .n (.s .n (.s .n (.s .n (.j (λR=>KH lp G c k (rg R q0) (rg R q5)) (.s .n (.b (.l _ (Nu lp G c k) (λR H n=>(rg R q0,rg R q5,rg R q67,rg R q68,rg R q69,H,n)) λih74=>.n))) (.j (λR=>Ov lp G c k) (.s .n (.b (.l _ (U4 lp G c k) (λR H n=>(rg R q0,rg R q5,rg R q92,rg R q93,rg R q94,H,n)) λih37=>.n))) .n))))))))
theorem YL{lp:Eo}(hL:Df lp)(G:AX):Oc G 40 (TY (Ky lp G)):=
 .mk Sl <| sf2 hL (an:=pz lp G) (λ_ _=>obs (by kernel_rfl)) λc a0 a1 H n k=>by kernel_rfl
def rF:Ta:=λlp G c k=>(.s .n (.j (λR=>Q9 lp G c k (rg R q0) (rg R q3)) (.s .n (.b (.l _ (Vr lp G c k) (λR H n=>(rg R q0,rg R q3,rg R q17,rg R q18,rg R q19,H,n)) λih61=>.n))) (.s .n (.j (λR=>LW lp G c k (rg R q0) (rg R q3)) (.s .n (.b (.l _ (O5 lp G c k) (λR H n=>(rg R q0,rg R q3,rg R q42,rg R q43,rg R q44,H,n)) λih30=>.n))) (.j (λR=>QV lp G c k) (.s .n (.b (.l _ (VP lp G c k) (λR H n=>(rg R q0,rg R q73,rg R q74,rg R q75,H,n)) λih15=>.n))) .n)))))
theorem Zi{lp:Eo}(hL:Df lp)(G:AX):Oc G 41 (TY (MC lp G)):=
 .mk Un <| sf2 hL (an:=rF lp G) (λ_ _=>obs (by kernel_rfl)) λc a0 a1 H n k=>by kernel_rfl
def sD:Ta:=λlp G c k=>.n
theorem Zy{lp:Eo}(hL:Df lp)(G:AX):Oc G 42 (TY (Ll lp G)):=
 .mk Ut <| sf2 hL (an:=sD lp G) (λ_ _=>obs (by kernel_rfl)) λc a0 a1 H n k=>by kernel_rfl
def qH:Ta:=λlp G c k=>(.s .n (.s .n (.j (λR=>QM lp G c k (rg R q7)) (.s .n (.b (.l _ (VX lp G c k) (λR H n=>(rg R q0,rg R q2,rg R q7,rg R q23,rg R q24,rg R q25,H,n)) λih9=>.n))) .n)))
theorem YP{lp:Eo}(hL:Df lp)(G:AX):Oc G 43 (ar3 (Kv lp G)):=
 .mk Sz <| sf3 hL (an:=qH lp G) (λ_ _=>obs (by kernel_rfl)) λc a0 a1 a2 H n k=>by kernel_rfl
def qE:Ta:=λlp G c k=>(.s .n (.j (λR=>QU lp G c k (rg R q4)) (.s .n (.b (.l _ (Vj lp G c k) (λR H n=>(rg R q1,rg R q4,rg R q9,rg R q10,rg R q11,H,n)) λih9=>.n))) .n))
theorem YV{lp:Eo}(hL:Df lp)(G:AX):Oc G 44 (TY (KY lp G)):=
 .mk TW <| sf2 hL (an:=qE lp G) (λ_ _=>obs (by kernel_rfl)) λc a0 a1 H n k=>by kernel_rfl
def yB:Ta:=λlp G c k=>.n
theorem fA{lp:Eo}(hL:Df lp)(G:AX):Oc G 45 (TY (QA lp G)):=
 .mk WU <| sf2 hL (an:=yB lp G) (λ_ _=>obs (by kernel_rfl)) λc a0 a1 H n k=>by kernel_rfl
def Vo:Ta:=λlp G c k=>.n
theorem MI{lp:Eo}(hL:Df lp)(G:AX):Oc G 46 (TY (Du lp G)):=
 .mk Hr <| sf2 hL (an:=Vo lp G) (λ_ _=>obs (by kernel_rfl)) λc a0 a1 H n k=>by kernel_rfl
def qN:Ta:=λlp G c k=>(.s .n (.j (λR=>QJ lp G c k) (.s .n (.b (.l _ (V3 lp G c k) (λR H n=>(rg R q0,rg R q9,rg R q10,rg R q11,H,n)) λih3=>(.s .n (.s .n (.j (λR=>Ia lp G c k ih3 (rg R q0) (rg R q9) (rg R q10) (rg R q11)) .n .n)))))) .n))
theorem YO{lp:Eo}(hL:Df lp)(G:AX):Oc G 47 (TY (KP lp G)):=
 .mk S9 <| sf2 hL (an:=qN lp G) (λ_ _=>obs (by kernel_rfl)) λc a0 a1 H n k=>by kernel_rfl
def kQ:Ta:=λlp G c k=>(.s .n (.s .n (.s .n (.j (λR=>GY lp G c k (rg R q0) (rg R q3) (rg R q4)) .n (.s .n (.s .n (.s .n (.j (λR=>NM lp G c k) (.b (.l _ (Lh lp G c k) (λR H n=>(rg R q0,H,n)) λih30=>.n)) .n))))))))
theorem WC{lp:Eo}(hL:Df lp)(G:AX):Oc G 49 (Lu (JH lp G)):=
 .mk QG <| wR hL (an:=kQ lp G) (λ_ _=>obs (by kernel_rfl)) λc a0 H n k=>by kernel_rfl
def AJ8:Ta:=λlp G c k=>.n
theorem ADy{lp:Eo}(hL:Df lp)(G:AX):Oc G 50 (Lu (lu lp G)):=
 .mk yx <| wR hL (an:=AJ8 lp G) (λ_ _=>obs (by kernel_rfl)) λc a0 H n k=>by kernel_rfl
def oI:Ta:=λlp G c k=>(.s .n (.s .n (.j (λR=>O6 lp G c k (rg R q9)) (.s .n (.b (.l _ (U7 lp G c k) (λR H n=>(rg R q0,rg R q2,rg R q3,rg R q9,rg R q25,rg R q26,rg R q27,H,n)) λih9=>.n))) .n)))
theorem XJ{lp:Eo}(hL:Df lp)(G:AX):Oc G 53 (ar4 (Jl lp G)):=
 .mk RQ <| sf4 hL (an:=oI lp G) (λ_ _=>obs (by kernel_rfl)) λc a0 a1 a2 a3 H n k=>by kernel_rfl
def aH:Ta:=λlp G c k=>(.s .n (.s .n (.j (λR=>P8 lp G c k (rg R q6) (rg R q7)) (.s .n (.b (.l _ (Oi lp G c k) (λR H n=>(rg R q0,rg R q5,rg R q6,rg R q7,rg R q26,rg R q27,rg R q28,H,n)) λih16=>(.s .n (.s .n (.j (λR=>GR lp G c k ih16 (rg R q0) (rg R q5) (rg R q6) (rg R q7) (rg R q26) (rg R q27) (rg R q28)) (.b (.s .n (.s .n (.s .n (.s .n (.b (.l _ (Og lp G c k ih16) (λR H n=>(rg R q0,rg R q5,rg R q6,rg R q7,rg R q13,rg R q26,rg R q27,rg R q28,rg R q42,rg R q43,rg R q44,H,n)) λih32=>.n))))))) .n)))))) .n)))
theorem SY{lp:Eo}(hL:Df lp)(G:AX):Oc G 54 (ar3 (F9 lp G)):=
 .mk LZ <| sf3 hL (an:=aH lp G) (λ_ _=>obs (by kernel_rfl)) λc a0 a1 a2 H n k=>by kernel_rfl
def aF:Ta:=λlp G c k=>(.s .n (.s .n (.j (λR=>DW lp G c k (rg R q3) (rg R q4) (rg R q5) (rg R q6) (rg R q8)) .n (.s .n (.j (λR=>Jc lp G c k (rg R q4) (rg R q5) (rg R q6) (rg R q8) (rg R q9)) (.s .n (.b (.l _ (OY lp G c k) (λR H n=>(rg R q4,rg R q5,rg R q6,rg R q8,rg R q9,rg R q52,rg R q53,rg R q54,H,n)) λih223=>.n))) (.s .n (.s .n (.j (λR=>CZ lp G c k (rg R q4) (rg R q8)) (.b (.l _ (Fp lp G c k) (λR H n=>(rg R q4,rg R q5,rg R q6,rg R q8,rg R q9,rg R q12,rg R q13,H,n)) λih34=>(.s .n (.b (.s .n (.s .n (.s .n (.s .n (.s .n (.s .n (.s .n (.s .n (.b (.s .n (.c .n (.s .n (.c .n (.s .n (.c .n (.s .n (.c .n (.s .n (.c .n (.s .n (.c .n (.s .n (.c .n (.j (λR=>CW lp G c k ih34 (rg R q4) (rg R q5) (rg R q6) (rg R q8) (rg R q9) (rg R q12) (rg R q13) (rg R q14) (rg R q15) (rg R q16) (rg R AVp)) .n (.c (.s .n (.s .n (.j (λR=>EC lp G c k ih34 (rg R q4) (rg R q5) (rg R q6) (rg R q8) (rg R q9) (rg R q12) (rg R q13) (rg R q14) (rg R q15) (rg R q16) (rg R q18) (rg R q19)) .n (.s .n (.j (λR=>Fh lp G c k ih34 (rg R q4) (rg R q5) (rg R q6) (rg R q8) (rg R q9) (rg R q12) (rg R q13) (rg R q14) (rg R q16) (rg R q18) (rg R q20)) (.s .n (.b (.l _ (Oa lp G c k ih34) (λR H n=>(rg R q4,rg R q5,rg R q6,rg R q8,rg R q9,rg R q12,rg R q13,rg R q14,rg R q15,rg R q16,rg R q18,rg R q20,rg R q21,H,n)) λih206=>.n))) (.s .n (.s .n (.j (λR=>EI lp G c k ih34 (rg R q4) (rg R q5) (rg R q6) (rg R q8) (rg R q9) (rg R q12) (rg R q13) (rg R q16) (rg R q18) (rg R q20) (rg R q22)) .n .n)))))))) .n))))))))))))))))))))))))))))) .n))))))))
theorem SV{lp:Eo}(hL:Df lp)(G:AX):Oc G 55 (ar4 (GK lp G)):=
 .mk La <| sf4 hL (an:=aF lp G) (λ_ _=>obs (by kernel_rfl)) λc a0 a1 a2 a3 H n k=>by kernel_rfl
def xk:Ta:=λlp G c k=>.n
theorem eP{lp:Eo}(hL:Df lp)(G:AX):Oc G 56 (Lu (Ph lp G)):=
 .mk WW <| wR hL (an:=xk lp G) (λ_ _=>obs (by kernel_rfl)) λc a0 H n k=>by kernel_rfl
def yG:Ta:=λlp G c k=>(.s .n (.s .n (.j (λR=>TJ lp G c k (rg R q1)) (.s .n (.b (.l _ (XF lp G c k) (λR H n=>(rg R q1,rg R q32,rg R q33,rg R q34,H,n)) λih66=>.n))) (.j (λR=>TG lp G c k) (.s .n (.b (.l _ (XO lp G c k) (λR H n=>(rg R q51,rg R q52,rg R q53,H,n)) λih26=>(.s .n (.s .n (.j (λR=>TN lp G c k ih26 (rg R q51) (rg R q52) (rg R q53)) (.b (.s .n (.s .n (.s .n (.b (.l _ (Xg lp G c k ih26) (λR H n=>(rg R q51,rg R q52,rg R q53,rg R q75,rg R q76,rg R q77,H,n)) λih52=>.n)))))) .n)))))) .n))))
theorem eX{lp:Eo}(hL:Df lp)(G:AX):Oc G 57 (Lu (Pj lp G)):=
 .mk Wl <| wR hL (an:=yG lp G) (λ_ _=>obs (by kernel_rfl)) λc a0 H n k=>by kernel_rfl
def sW:Ta:=λlp G c k=>(.s .n (.s .n (.s .n (.j (λR=>QK lp G c k (rg R q1)) (.s .n (.b (.l _ (J5 lp G c k) (λR H n=>(rg R q1,rg R q3,rg R q50,rg R q51,rg R q52,H,n)) λih77=>.n))) (.s .n (.j (λR=>QT lp G c k) (.s .n (.b (.l _ (Oq lp G c k) (λR H n=>(rg R q3,rg R q76,rg R q77,rg R q78,H,n)) λih43=>.n))) .n))))))
theorem ZA{lp:Eo}(hL:Df lp)(G:AX):Oc G 58 (Lu (MO lp G)):=
 .mk UW <| wR hL (an:=sW lp G) (λ_ _=>obs (by kernel_rfl)) λc a0 H n k=>by kernel_rfl
def pK:Ta:=λlp G c k=>(.s .n (.j (λR=>Qc lp G c k (rg R q1)) (.s .n (.b (.l _ (OG lp G c k) (λR H n=>(rg R q1,rg R q28,rg R q29,rg R q30,H,n)) λih97=>.n))) (.j (λR=>QH lp G c k (rg R q1)) (.s .n (.b (.l _ (OC lp G c k) (λR H n=>(rg R q1,rg R q38,rg R q39,rg R q40,H,n)) λih73=>.n))) (.j (λR=>QX lp G c k (rg R q1)) (.s .n (.b (.l _ (Ny lp G c k) (λR H n=>(rg R q1,rg R q49,rg R q50,rg R q51,H,n)) λih60=>.n))) (.j (λR=>QZ lp G c k (rg R q1)) (.s .n (.b (.l _ (OH lp G c k) (λR H n=>(rg R q1,rg R q60,rg R q61,rg R q62,H,n)) λih29=>.n))) (.j (λR=>QS lp G c k) (.s .n (.b (.l _ (OL lp G c k) (λR H n=>(rg R q92,rg R q93,rg R q94,H,n)) λih10=>.n))) .n))))))
theorem YX{lp:Eo}(hL:Df lp)(G:AX):Oc G 59 (Lu (Kr lp G)):=
 .mk TB <| wR hL (an:=pK lp G) (λ_ _=>obs (by kernel_rfl)) λc a0 H n k=>by kernel_rfl
def vY:Ta:=λlp G c k=>.n
theorem bI{lp:Eo}(hL:Df lp)(G:AX):Oc G 60 (TY (OX lp G)):=
 .mk VN <| sf2 hL (an:=vY lp G) (λ_ _=>obs (by kernel_rfl)) λc a0 a1 H n k=>by kernel_rfl
def sF:Ta:=λlp G c k=>.n
theorem ZW{lp:Eo}(hL:Df lp)(G:AX):Oc G 61 (TY (MN lp G)):=
 .mk Uf <| sf2 hL (an:=sF lp G) (λ_ _=>obs (by kernel_rfl)) λc a0 a1 H n k=>by kernel_rfl
def AC3:Ta:=λlp G c k=>(.s .n (.j (λR=>UO lp G c k (rg R q1)) (.s .n (.b (.l _ (bF lp G c k) (λR H n=>(rg R q1,rg R q7,rg R q8,H,n)) λih29=>.n))) (.j (λR=>YE lp G c k) (.s .n (.b (.l _ (fP lp G c k) (λR H n=>(rg R q1,rg R q32,rg R q33,H,n)) λih7=>.n))) .n)))
theorem qx{lp:Eo}(hL:Df lp)(G:AX):Oc G 62 (Lu (VR lp G)):=
 .mk cZ <| wR hL (an:=AC3 lp G) (λ_ _=>obs (by kernel_rfl)) λc a0 H n k=>by kernel_rfl
def rC:Ta:=λlp G c k=>(.s .n (.j (λR=>Qy lp G c k (rg R q4)) (.s .n (.b (.l _ (WO lp G c k) (λR H n=>(rg R q1,rg R q4,rg R q9,rg R q10,rg R q11,H,n)) λih9=>.n))) .n))
theorem Z4{lp:Eo}(hL:Df lp)(G:AX):Oc G 63 (TY (MX lp G)):=
 .mk Uk <| sf2 hL (an:=rC lp G) (λ_ _=>obs (by kernel_rfl)) λc a0 a1 H n k=>by kernel_rfl
def VE:Ta:=λlp G c k=>(.s .n (.s .n (.j (λR=>F7 lp G c k) (.s .n (.b (.l _ (Jj lp G c k) (λR H n=>(rg R q0,rg R q1,rg R q12,rg R q13,H,n)) λih6=>.n))) .n)))
theorem LY{lp:Eo}(hL:Df lp)(G:AX):Oc G 64 (TY (DZ lp G)):=
 .mk Gw <| sf2 hL (an:=VE lp G) (λ_ _=>obs (by kernel_rfl)) λc a0 a1 H n k=>by kernel_rfl
def Xp:Ta:=λlp G c k=>(.s .n (.j (λR=>II lp G c k) (.s .n (.b (.l _ (MG lp G c k) (λR H n=>(rg R q0,rg R q1,rg R q7,rg R q8,H,n)) λih3=>.n))) .n))
theorem Oh{lp:Eo}(hL:Df lp)(G:AX):Oc G 65 (TY (EO lp G)):=
 .mk JI <| sf2 hL (an:=Xp lp G) (λ_ _=>obs (by kernel_rfl)) λc a0 a1 H n k=>by kernel_rfl
def AEg:Ta:=λlp G c k=>.n
theorem vN{lp:Eo}(hL:Df lp)(G:AX):Oc G 66 (Lu (XI lp G)):=
 .mk jT <| wR hL (an:=AEg lp G) (λ_ _=>obs (by kernel_rfl)) λc a0 H n k=>by kernel_rfl
def wZ:Ta:=λlp G c k=>.n
theorem ah{lp:Eo}(hL:Df lp)(G:AX):Oc G 67 (Lu (OZ lp G)):=
 .mk Vu <| wR hL (an:=wZ lp G) (λ_ _=>obs (by kernel_rfl)) λc a0 H n k=>by kernel_rfl
def jI:Ta:=λlp G c k=>(.s .n (.s .n (.s .n (.s .n (.s .n (.s .n (.j (λR=>IV lp G c k (rg R q0) (rg R q1) (rg R q5) (rg R q7) (rg R q9)) (.s .n (.b (.l _ (HY lp G c k) (λR H n=>(rg R q0,rg R q1,rg R q5,rg R q7,rg R q9,rg R q63,rg R q64,rg R q65,H,n)) λih93=>.n))) (.j (λR=>FT lp G c k (rg R q0) (rg R q1) (rg R q9)) (.s .n (.b (.l _ (KW lp G c k) (λR H n=>(rg R q0,rg R q1,rg R q7,rg R q9,rg R ATb,rg R AUK,rg R ATT,H,n)) λih53=>.n))) (.j (λR=>IU lp G c k) .n .n)))))))))
theorem Vm{lp:Eo}(hL:Df lp)(G:AX):Oc G 70 (ar3 (Ik lp G)):=
 .mk O0 <| sf3 hL (an:=jI lp G) (λ_ _=>obs (by kernel_rfl)) λc a0 a1 a2 H n k=>by kernel_rfl
def kG:Ta:=λlp G c k=>.n
theorem WJ{lp:Eo}(hL:Df lp)(G:AX):Oc G 71 (Lu (JL lp G)):=
 .mk QL <| wR hL (an:=kG lp G) (λ_ _=>obs (by kernel_rfl)) λc a0 H n k=>by kernel_rfl
def jR:Ta:=λlp G c k=>(.s .n (.s .n (.s (.s .n (.b (.s .n (.c .n (.s .n (.c .n (.s .n (.c .n (.s .n (.c .n (.s .n (.c .n (.j (λR=>Bj lp G c k (rg R q0) (rg R q1) (rg R q5) (rg R q7) (rg R q8) (rg R q20) (rg R q80)) .n (.c .n (.j (λR=>DV lp G c k (rg R q0) (rg R q1) (rg R q5) (rg R q7) (rg R q8) (rg R q20) (rg R q98)) .n (.c .n (.s .n (.c .n (.s .n (.c .n (.j (λR=>DU lp G c k (rg R q0) (rg R q1) (rg R q5) (rg R q7) (rg R q8) (rg R q20) (rg R AVi)) .n .n))))))))))))))))))))) .n)))
theorem Vt{lp:Eo}(hL:Df lp)(G:AX):Oc G 72 (ar3 (Ij lp G)):=
 .mk Oy <| sf3 hL (an:=jR lp G) (λ_ _=>obs (by kernel_rfl)) λc a0 a1 a2 H n k=>by kernel_rfl
def fK:Ta:=λlp G c k=>.n
theorem U8{lp:Eo}(hL:Df lp)(G:AX):Oc G 73 (ar3 (Ht lp G)):=
 .mk N8 <| sf3 hL (an:=fK lp G) (λ_ _=>obs (by kernel_rfl)) λc a0 a1 a2 H n k=>by kernel_rfl
def uT:Ta:=λlp G c k=>.n
theorem Yx{lp:Eo}(hL:Df lp)(G:AX):Oc G 77 (ar3 (MZ lp G)):=
 .mk Ur <| sf3 hL (an:=uT lp G) (λ_ _=>obs (by kernel_rfl)) λc a0 a1 a2 H n k=>by kernel_rfl
def AHc:Ta:=λlp G c k=>.n
theorem zo{lp:Eo}(hL:Df lp)(G:AX):Oc G 79 (ar0 (Zk lp G)):=
 .mk lG <| sf0 hL (an:=AHc lp G) (λ_ _=>obs (by kernel_rfl)) λc H n k=>by kernel_rfl
def AA2:Ta:=λlp G c k=>.n
theorem nT{lp:Eo}(hL:Df lp)(G:AX):Oc G 81 (ar0 (Tc lp G)):=
 .mk Zf <| sf0 hL (an:=AA2 lp G) (λ_ _=>obs (by kernel_rfl)) λc H n k=>by kernel_rfl
def rZ:Ta:=λlp G c k=>.n
theorem Z5{lp:Eo}(hL:Df lp)(G:AX):Oc G 82 (Lu (L8 lp G)):=
 .mk Ul <| wR hL (an:=rZ lp G) (λ_ _=>obs (by kernel_rfl)) λc a0 H n k=>by kernel_rfl
def yM:Ta:=λlp G c k=>.n
theorem iC{lp:Eo}(hL:Df lp)(G:AX):Oc G 83 (Lu (P6 lp G)):=
 .mk WZ <| wR hL (an:=yM lp G) (λ_ _=>obs (by kernel_rfl)) λc a0 H n k=>by kernel_rfl
def aN:Ta:=λlp G c k=>(.s .n (.j (λR=>Qm lp G c k (rg R q4)) (.s .n (.b (.l _ (Pv lp G c k) (λR H n=>(rg R q1,rg R q4,rg R q11,rg R q12,rg R q13,H,n)) λih9=>.n))) .n))
theorem Sj{lp:Eo}(hL:Df lp)(G:AX):Oc G 84 (TY (GH lp G)):=
 .mk Lc <| sf2 hL (an:=aN lp G) (λ_ _=>obs (by kernel_rfl)) λc a0 a1 H n k=>by kernel_rfl
def dn:Ta:=λlp G c k=>(.s .n (.j (λR=>E5 lp G c k (rg R q4)) .n .n))
theorem Tt{lp:Eo}(hL:Df lp)(G:AX):Oc G 85 (TY (Gg lp G)):=
 .mk NP <| sf2 hL (an:=dn lp G) (λ_ _=>obs (by kernel_rfl)) λc a0 a1 H n k=>by kernel_rfl
def Y1:Ta:=λlp G c k=>.n
theorem Zt{lp:Eo}(hL:Df lp)(G:AX):Oc G 86 (Lu (SQ lp G)):=
 .mk ZJ <| wR hL (an:=Y1 lp G) (λ_ _=>obs (by kernel_rfl)) λc a0 H n k=>by kernel_rfl
def Yc:Ta:=λlp G c k=>.n
theorem Qn{lp:Eo}(hL:Df lp)(G:AX):Oc G 87 (TY (Ey lp G)):=
 .mk J3 <| sf2 hL (an:=Yc lp G) (λ_ _=>obs (by kernel_rfl)) λc a0 a1 H n k=>by kernel_rfl
def Ym:Ta:=λlp G c k=>.n
theorem Qe{lp:Eo}(hL:Df lp)(G:AX):Oc G 88 (ar4 (Ez lp G)):=
 .mk KC <| sf4 hL (an:=Ym lp G) (λ_ _=>obs (by kernel_rfl)) λc a0 a1 a2 a3 H n k=>by kernel_rfl
def Yy:Ta:=λlp G c k=>(.s .n (.s .n (.b (.s .n (.c .n (.s .n (.c .n (.s .n (.c .n (.s .n (.c .n (.s .n (.c .n (.s .n (.c (.s .n (.s .n (.j (λR=>D9 lp G c k (rg R q0) (rg R q4) (rg R q6) (rg R q7) (rg R q10)) (.s .n (.b (.l _ (FM lp G c k) (λR H n=>(rg R q0,rg R q4,rg R q6,rg R q7,rg R q10,rg R ARh,rg R ARX,rg R ARu,H,n)) λih69=>(.s .n (.s .n (.j (λR=>JK lp G c k ih69 (rg R q0) (rg R q4) (rg R q6) (rg R q7) (rg R q10) (rg R ARh) (rg R ARX) (rg R ARu)) (.b (.s .n (.s .n (.s .n (.b (.l _ (OT lp G c k ih69) (λR H n=>(rg R q0,rg R q4,rg R q6,rg R q7,rg R q10,rg R ARh,rg R ARX,rg R ARu,rg R AVR,rg R AWN,rg R AVf,H,n)) λih86=>.n)))))) .n)))))) .n))) (.s .n (.c .n (.j (λR=>CO lp G c k (rg R q0) (rg R q3) (rg R q4) (rg R q6) (rg R q7) (rg R q27) (rg R AVN)) .n (.c .n (.j (λR=>BI lp G c k (rg R q0) (rg R q3) (rg R q4) (rg R q6) (rg R q7) (rg R AVA)) .n .n))))))))))))))))))))
theorem Qr{lp:Eo}(hL:Df lp)(G:AX):Oc G 89 (ar5 (Fb lp G)):=
 .mk KT <| sf5 hL (an:=Yy lp G) (λ_ _=>obs (by kernel_rfl)) λc a0 a1 a2 a3 a4 H n k=>by kernel_rfl
def QY:Ta:=λlp G c k=>.n
theorem Ih{lp:Eo}(hL:Df lp)(G:AX):Oc G 90 (TY (CQ lp G)):=
 .mk EX <| sf2 hL (an:=QY lp G) (λ_ _=>obs (by kernel_rfl)) λc a0 a1 H n k=>by kernel_rfl
def nD:Ta:=λlp G c k=>.n
theorem XT{lp:Eo}(hL:Df lp)(G:AX):Oc G 91 (Lu (Jt lp G)):=
 .mk Q8 <| wR hL (an:=nD lp G) (λ_ _=>obs (by kernel_rfl)) λc a0 H n k=>by kernel_rfl
def ACd:Ta:=λlp G c k=>.n
theorem lU{lp:Eo}(hL:Df lp)(G:AX):Oc G 92 (Lu (UF lp G)):=
 .mk Yz <| wR hL (an:=ACd lp G) (λ_ _=>obs (by kernel_rfl)) λc a0 H n k=>by kernel_rfl
def AFb:Ta:=λlp G c k=>.n
theorem vH{lp:Eo}(hL:Df lp)(G:AX):Oc G 93 (Lu (XQ lp G)):=
 .mk jH <| wR hL (an:=AFb lp G) (λ_ _=>obs (by kernel_rfl)) λc a0 H n k=>by kernel_rfl
def oG:Ta:=λlp G c k=>.n
theorem XM{lp:Eo}(hL:Df lp)(G:AX):Oc G 94 (ar3 (Jg lp G)):=
 .mk RZ <| sf3 hL (an:=oG lp G) (λ_ _=>obs (by kernel_rfl)) λc a0 a1 a2 H n k=>by kernel_rfl
def ABG:Ta:=λlp G c k=>(.s .n (.j (λR=>OU lp G c k (rg R q6)) .n .n))
theorem oL{lp:Eo}(hL:Df lp)(G:AX):Oc G 95 (ar3 (Tf lp G)):=
 .mk ZQ <| sf3 hL (an:=ABG lp G) (λ_ _=>obs (by kernel_rfl)) λc a0 a1 a2 H n k=>by kernel_rfl
def VG:Ta:=λlp G c k=>.n
theorem LX{lp:Eo}(hL:Df lp)(G:AX):Oc G 96 (Lu (Dc lp G)):=
 .mk Gv <| wR hL (an:=VG lp G) (λ_ _=>obs (by kernel_rfl)) λc a0 H n k=>by kernel_rfl
def iT:Ta:=λlp G c k=>.n
theorem VW{lp:Eo}(hL:Df lp)(G:AX):Oc G 97 (ar3 (IZ lp G)):=
 .mk PO <| sf3 hL (an:=iT lp G) (λ_ _=>obs (by kernel_rfl)) λc a0 a1 a2 H n k=>by kernel_rfl
def mQ:Ta:=λlp G c k=>.n
theorem Xh{lp:Eo}(hL:Df lp)(G:AX):Oc G 98 (Lu (Jk lp G)):=
 .mk Qs <| wR hL (an:=mQ lp G) (λ_ _=>obs (by kernel_rfl)) λc a0 H n k=>by kernel_rfl
def kZ:Ta:=λlp G c k=>(.s .n (.j (λR=>Nz lp G c k) (.s .n (.b (.l _ (Tn lp G c k) (λR H n=>(rg R q0,rg R q1,rg R q2,rg R q7,H,n)) λih4=>.n))) .n))
theorem WL{lp:Eo}(hL:Df lp)(G:AX):Oc G 99 (ar3 (JC lp G)):=
 .mk QN <| sf3 hL (an:=kZ lp G) (λ_ _=>obs (by kernel_rfl)) λc a0 a1 a2 H n k=>by kernel_rfl
def dU:Ta:=λlp G c k=>(.s .n (.s (.s .n (.b (.s .n (.c .n (.s .n (.c .n (.j (λR=>Dk lp G c k (rg R q0) (rg R q1) (rg R q5) (rg R q14) (rg R q66)) .n (.c (.s .n (.s .n (.j (λR=>DF lp G c k (rg R q0) (rg R q1) (rg R q7) (rg R q8) (rg R q9)) .n .n))) (.s .n (.c .n (.s .n (.c .n (.j (λR=>DX lp G c k (rg R q0) (rg R q1) (rg R q5) (rg R AVY)) .n .n))))))))))))) .n))
theorem UC{lp:Eo}(hL:Df lp)(G:AX):Oc G 100 (ar3 (Gi lp G)):=
 .mk NJ <| sf3 hL (an:=dU lp G) (λ_ _=>obs (by kernel_rfl)) λc a0 a1 a2 H n k=>by kernel_rfl
def qA:Ta:=λlp G c k=>.n
theorem YS{lp:Eo}(hL:Df lp)(G:AX):Oc G 103 (ar3 (LK lp G)):=
 .mk TF <| sf3 hL (an:=qA lp G) (λ_ _=>obs (by kernel_rfl)) λc a0 a1 a2 H n k=>by kernel_rfl
def xw:Ta:=λlp G c k=>.n
theorem fV{lp:Eo}(hL:Df lp)(G:AX):Oc G 104 (Lu (Po lp G)):=
 .mk WY <| wR hL (an:=xw lp G) (λ_ _=>obs (by kernel_rfl)) λc a0 H n k=>by kernel_rfl
def ZL:Ta:=λlp G c k=>.n
theorem Rf{lp:Eo}(hL:Df lp)(G:AX):Oc G 105 (ar4 (FV lp G)):=
 .mk KR <| sf4 hL (an:=ZL lp G) (λ_ _=>obs (by kernel_rfl)) λc a0 a1 a2 a3 H n k=>by kernel_rfl
def Y8:Ta:=λlp G c k=>(.s .n (.s .n (.s .n (.j (λR=>Ar lp G c k (rg R q0) (rg R q3) (rg R q4) (rg R q6) (rg R q7) (rg R q10) (rg R q11)) .n (.j (λR=>BX lp G c k (rg R q0) (rg R q3) (rg R q4) (rg R q6) (rg R q7) (rg R q10) (rg R q11)) .n (.s .n (.s .n (.s .n (.s .n (.j (λR=>EH lp G c k (rg R q0) (rg R q4) (rg R q7) (rg R q10) (rg R q11) (rg R q13)) (.s .n (.b (.s .n (.c .n (.j (λR=>DR lp G c k (rg R q0) (rg R q4) (rg R q6) (rg R q7) (rg R q10) (rg R q11) (rg R q12) (rg R q13) (rg R q69)) .n .n))))) .n))))))))))
theorem Q7{lp:Eo}(hL:Df lp)(G:AX):Oc G 106 (ar5 (FP lp G)):=
 .mk KQ <| sf5 hL (an:=Y8 lp G) (λ_ _=>obs (by kernel_rfl)) λc a0 a1 a2 a3 a4 H n k=>by kernel_rfl
def dH:Ta:=λlp G c k=>(.s .n (.s .n (.b (.s .n (.c .n (.s .n (.c .n (.s .n (.c .n (.j (λR=>Ed lp G c k (rg R q0) (rg R q1) (rg R q4) (rg R q7) (rg R q8) (rg R q11) (rg R q44)) .n (.c (.s .n (.s .n (.j (λR=>Em lp G c k (rg R q4) (rg R q10)) .n .n))) (.s .n (.c .n (.s .n (.c .n (.j (λR=>Ei lp G c k (rg R q0) (rg R q4) (rg R q7) (rg R q8) (rg R q90)) .n .n))))))))))))))))
theorem UH{lp:Eo}(hL:Df lp)(G:AX):Oc G 107 (ar5 (Gh lp G)):=
 .mk NH <| sf5 hL (an:=dH lp G) (λ_ _=>obs (by kernel_rfl)) λc a0 a1 a2 a3 a4 H n k=>by kernel_rfl
def Rl:Ta:=λlp G c k=>(.s .n (.j (λR=>Ep lp G c k) (.s .n (.b (.l _ (IX lp G c k) (λR H n=>(rg R q0,rg R q1,rg R q7,rg R q8,H,n)) λih3=>.n))) .n))
theorem JV{lp:Eo}(hL:Df lp)(G:AX):Oc G 108 (TY (Ce lp G)):=
 .mk FK <| sf2 hL (an:=Rl lp G) (λ_ _=>obs (by kernel_rfl)) λc a0 a1 H n k=>by kernel_rfl
def nU:Ta:=λlp G c k=>(.s .n (.s .n (.j (λR=>O8 lp G c k) (.s .n (.b (.l _ (Uw lp G c k) (λR H n=>(rg R q0,rg R q2,rg R q17,rg R q18,rg R q19,H,n)) λih6=>.n))) .n)))
theorem Xl{lp:Eo}(hL:Df lp)(G:AX):Oc G 109 (ar3 (Jp lp G)):=
 .mk RD <| sf3 hL (an:=nU lp G) (λ_ _=>obs (by kernel_rfl)) λc a0 a1 a2 H n k=>by kernel_rfl
def fJ:Ta:=λlp G c k=>.n
theorem Uz{lp:Eo}(hL:Df lp)(G:AX):Oc G 110 (ar3 (G6 lp G)):=
 .mk OM <| sf3 hL (an:=fJ lp G) (λ_ _=>obs (by kernel_rfl)) λc a0 a1 a2 H n k=>by kernel_rfl
def Zl:Ta:=λlp G c k=>(.s .n (.j (λR=>Px lp G c k (rg R q0)) (.s .n (.b (.l _ (OD lp G c k) (λR H n=>(rg R q0,rg R q2,rg R q19,rg R q20,rg R q21,H,n)) λih16=>.n))) .n))
theorem Qw{lp:Eo}(hL:Df lp)(G:AX):Oc G 111 (ar3 (FQ lp G)):=
 .mk LG <| sf3 hL (an:=Zl lp G) (λ_ _=>obs (by kernel_rfl)) λc a0 a1 a2 H n k=>by kernel_rfl
def FS(lp:Eo)(G:AX):T SF:=(.n none (.n none (.n none (.n (some (ar6 (Gf lp G))) (.n none (.n (some (TY (qY lp G))) (.n (some (TY (MX lp G))) .e .e) (.n (some (ar3 (Tf lp G))) .e .e)) (.n (some (TY (KP lp G))) (.n (some (ar0 (Zk lp G))) .e .e) (.n (some (ar3 (FQ lp G))) .e .e))) (.n none (.n (some (Lu (Za lp G))) (.n (some (Lu (JL lp G))) .e .e) (.n (some (ar3 (LK lp G))) .e .e)) (.n (some (ar4 (GK lp G))) (.n (some (TY (Ey lp G))) .e .e) .e))) (.n none (.n (some (TY (Ku lp G))) (.n (some (Lu (RY lp G))) (.n (some (Lu (OZ lp G))) .e .e) (.n (some (ar3 (JC lp G))) .e .e)) (.n none (.n (some (Lu (P6 lp G))) .e .e) .e)) (.n none (.n (some (ar3 (Kv lp G))) .e (.n (some (ar5 (Gh lp G))) .e .e)) (.n (some (Lu (Kr lp G))) (.n (some (Lu (Jt lp G))) .e .e) .e)))) (.n none (.n none (.n (some (TY (L6 lp G))) (.n (some (ar3 (jf lp G))) (.n (some (TY (EO lp G))) .e .e) (.n (some (ar3 (IZ lp G))) .e .e)) (.n (some (Lu (JH lp G))) (.n (some (ar0 (Tc lp G))) .e .e) .e)) (.n (some (ar0 (fF lp G))) (.n (some (TY (MC lp G))) (.n (some (ar3 (Ht lp G))) .e .e) (.n (some (ar4 (FV lp G))) .e .e)) (.n (some (Lu (Pj lp G))) (.n (some (ar5 (Fb lp G))) .e .e) .e))) (.n (some (Lu (P9 lp G))) (.n (some (TY (Lp lp G))) (.n (some (Lu (PY lp G))) .e .e) (.n (some (ar4 (Jl lp G))) (.n (some (TY (Gg lp G))) .e .e) .e)) (.n (some (ar0 (gI lp G))) (.n (some (TY (QA lp G))) (.n (some (ar3 (MZ lp G))) .e .e) (.n (some (ar3 (Jp lp G))) .e .e)) (.n (some (TY (MN lp G))) (.n (some (Lu (XQ lp G))) .e .e) .e))))) (.n none (.n none (.n none (.n none (.n (some (Lu (aX lp G))) (.n (some (TY (DZ lp G))) .e .e) (.n (some (Lu (Dc lp G))) .e .e)) .e) (.n none (.n (some (TY (Ky lp G))) (.n (some (ar3 (Ij lp G))) .e .e) (.n (some (Lu (Po lp G))) .e .e)) (.n (some (Lu (Ph lp G))) (.n (some (ar4 (Ez lp G))) .e .e) .e))) (.n none (.n none (.n none .e (.n (some (ar3 (Gi lp G))) .e .e)) (.n none (.n (some (TY (GH lp G))) .e .e) .e)) (.n (some (ar3 (LJ lp G))) (.n (some (TY (KY lp G))) .e (.n (some (TY (Ce lp G))) .e .e)) (.n (some (TY (OX lp G))) (.n (some (Lu (UF lp G))) .e .e) .e)))) (.n none (.n none (.n (some (Lu (Ko lp G))) (.n (some (Lu (RI lp G))) (.n (some (Lu (XI lp G))) .e .e) (.n (some (Lu (Jk lp G))) .e .e)) (.n (some (Lu (lu lp G))) (.n (some (Lu (L8 lp G))) .e .e) .e)) (.n (some (Lu (RX lp G))) (.n (some (TY (Ll lp G))) .e (.n (some (ar5 (FP lp G))) .e .e)) (.n (some (Lu (MO lp G))) (.n (some (TY (CQ lp G))) .e .e) .e))) (.n (some (Lu (Xe lp G))) (.n none (.n (some (Lu (KO lp G))) (.n (some (ar3 (Ik lp G))) .e .e) .e) (.n (some (ar3 (F9 lp G))) (.n (some (Lu (SQ lp G))) .e .e) .e)) (.n (some (ar4 (Gl lp G))) (.n (some (TY (Du lp G))) .e (.n (some (ar3 (G6 lp G))) .e .e)) (.n (some (Lu (VR lp G))) (.n (some (ar3 (Jg lp G))) .e .e) .e))))))
theorem ARQ{lp:Eo}(hL:Df lp)(G:AX):T.All (λp s=>Oc G p.key s) (FS lp G):=(.n0 (.n0 (.n0 (.n1 (UK hL G) (.n0 (.n1 (AB8 hL G) (.n1 (Z4 hL G) .e .e) (.n1 (oL hL G) .e .e)) (.n1 (YO hL G) (.n1 (zo hL G) .e .e) (.n1 (Qw hL G) .e .e))) (.n0 (.n1 (zN hL G) (.n1 (WJ hL G) .e .e) (.n1 (YS hL G) .e .e)) (.n1 (SV hL G) (.n1 (Qn hL G) .e .e) .e))) (.n0 (.n1 (YG hL G) (.n1 (jV hL G) (.n1 (ah hL G) .e .e) (.n1 (WL hL G) .e .e)) (.n0 (.n1 (iC hL G) .e .e) .e)) (.n0 (.n1 (YP hL G) .e (.n1 (UH hL G) .e .e)) (.n1 (YX hL G) (.n1 (XT hL G) .e .e) .e)))) (.n0 (.n0 (.n1 (Y0 hL G) (.n1 (yZ hL G) (.n1 (Oh hL G) .e .e) (.n1 (VW hL G) .e .e)) (.n1 (WC hL G) (.n1 (nT hL G) .e .e) .e)) (.n1 (wX hL G) (.n1 (Zi hL G) (.n1 (U8 hL G) .e .e) (.n1 (Rf hL G) .e .e)) (.n1 (eX hL G) (.n1 (Qr hL G) .e .e) .e))) (.n1 (fQ hL G) (.n1 (Zz hL G) (.n1 (fO hL G) .e .e) (.n1 (XJ hL G) (.n1 (Tt hL G) .e .e) .e)) (.n1 (ABi hL G) (.n1 (fA hL G) (.n1 (Yx hL G) .e .e) (.n1 (Xl hL G) .e .e)) (.n1 (ZW hL G) (.n1 (vH hL G) .e .e) .e))))) (.n0 (.n0 (.n0 (.n0 (.n1 (uI hL G) (.n1 (LY hL G) .e .e) (.n1 (LX hL G) .e .e)) .e) (.n0 (.n1 (YL hL G) (.n1 (Vt hL G) .e .e) (.n1 (fV hL G) .e .e)) (.n1 (eP hL G) (.n1 (Qe hL G) .e .e) .e))) (.n0 (.n0 (.n0 .e (.n1 (UC hL G) .e .e)) (.n0 (.n1 (Sj hL G) .e .e) .e)) (.n1 (YT hL G) (.n1 (YV hL G) .e (.n1 (JV hL G) .e .e)) (.n1 (bI hL G) (.n1 (lU hL G) .e .e) .e)))) (.n0 (.n0 (.n1 (YR hL G) (.n1 (je hL G) (.n1 (vN hL G) .e .e) (.n1 (Xh hL G) .e .e)) (.n1 (ADy hL G) (.n1 (Z5 hL G) .e .e) .e)) (.n1 (jZ hL G) (.n1 (Zy hL G) .e (.n1 (Q7 hL G) .e .e)) (.n1 (ZA hL G) (.n1 (Ih hL G) .e .e) .e))) (.n1 (wE hL G) (.n0 (.n1 (YQ hL G) (.n1 (Vm hL G) .e .e) .e) (.n1 (SY hL G) (.n1 (Zt hL G) .e .e) .e)) (.n1 (UD hL G) (.n1 (MI hL G) .e (.n1 (Uz hL G) .e .e)) (.n1 (qx hL G) (.n1 (XM hL G) .e .e) .e))))))
theorem AUY{lp:Eo}(hL:Df lp)(G:AX):ATd F G (FS lp G):=λf s h=>by
 have:=T.All.D6 (p:=P7 f) (ARQ hL G) h
 rw[AAj]at this
 obtain⟨h,o⟩:=this
 exact⟨_,h,o⟩
end Go.RL
