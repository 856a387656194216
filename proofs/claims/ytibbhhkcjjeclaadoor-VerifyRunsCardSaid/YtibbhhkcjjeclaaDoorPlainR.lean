/- Part of a proof; nothing is assumed. -/
import Derived.Test.YtibbhhkcjjeclaaDoorPlain
import Derived.Test.YtibbhhkcjjeclaaDoorCode
import Derived.Test.YtibbhhkcjjeclaaDoorEngE
set_option linter.unusedVariables false
set_option linter.unusedSimpArgs false
noncomputable section
namespace Go.RL
open Go.Bh
set_option maxRecDepth 100000
abbrev Ta:=FI->AX->Au->KV->An
inductive Ov(G:AX)(n:Nat)(s:SF):Prop where
 |mk {af:AF} (h:T.get F n=some af) (o:ADe G af s):Ov G n s
def dF:Ta:=λlp G c k=>(.s .n (.s .n (.s .n (.s .n (.s .n (.j (λR=>Hr lp G c k (rg R q1) (rg R q2) (rg R q3) (rg R q9)) (.s .n (.b (.l _ (QF lp G c k) (λR H n=>(rg R q0,rg R q1,rg R q2,rg R q3,rg R q9,rg R q32,rg R q33,H,n)) λih42=>(.s .n (.s .n (.s (.b (.s .n (.s .n (.s .n (.j (λR=>CU lp G c k ih42 (rg R q0) (rg R q1) (rg R q2) (rg R q3) (rg R q9) (rg R q12) (rg R q32) (rg R q33)) (.s .n (.b (.s .n (.c .n (.s .n (.c .n (.j (λR=>Ew lp G c k ih42 (rg R q0) (rg R q1) (rg R q2) (rg R q3) (rg R q9) (rg R q11) (rg R q12) (rg R q32) (rg R q33) (rg R q63)) .n .n))))))) .n))))) .n)))))) .n))))))
theorem UU{lp:FI}(hL:Dy lp)(G:AX):Ov G 9 (ar4 (Hl lp G)):=
 .mk NR <| sf4 hL (an:=dF lp G) (λ_ _=>obs (by kernel_rfl)) λc a0 a1 a2 a3 H n k=>by kernel_rfl
def ADI:Ta:=λlp G c k=>(.s .n (.s .n (.s .n (.s .n (.j (λR=>Y1 lp G c k (rg R q0) (rg R q4) (rg R q5)) (.s .n (.b (.l _ (bF lp G c k) (λR H n=>(rg R q0,rg R q4,rg R q5,rg R q19,rg R q20,rg R q21,H,n)) λih33=>.n))) (.s .n (.j (λR=>XA lp G c k (rg R q5)) (.s .n (.b (.l _ (Vk lp G c k) (λR H n=>(rg R q5,rg R q73,rg R q74,rg R q75,H,n)) λih13=>.n))) .n)))))))
theorem sU{lp:FI}(hL:Dy lp)(G:AX):Ov G 14 (N9 (WH lp G)):=
 .mk fU <| xM hL (an:=ADI lp G) (λ_ _=>obs (by kernel_rfl)) λc a0 H n k=>by kernel_rfl
def oU:Ta:=λlp G c k=>(.s .n (.s .n (.j (λR=>PV lp G c k) (.s .n (.b (.l _ (U0 lp G c k) (λR H n=>(rg R q0,rg R q3,rg R q24,rg R q25,rg R q26,H,n)) λih12=>.n))) .n)))
theorem YT{lp:FI}(hL:Dy lp)(G:AX):Ov G 17 (SC (La lp G)):=
 .mk Tn <| sf2 hL (an:=oU lp G) (λ_ _=>obs (by kernel_rfl)) λc a0 a1 H n k=>by kernel_rfl
def mX:Ta:=λlp G c k=>.n
theorem Xh{lp:FI}(hL:Dy lp)(G:AX):Ov G 18 (N9 (KL lp G)):=
 .mk Rx <| xM hL (an:=mX lp G) (λ_ _=>obs (by kernel_rfl)) λc a0 H n k=>by kernel_rfl
def nG:Ta:=λlp G c k=>(.s .n (.s .n (.j (λR=>Pz lp G c k (rg R q6)) (.b (.l _ (Ui lp G c k) (λR H n=>(rg R q0,rg R q1,rg R q6,H,n)) λih2=>.n)) .n)))
theorem Xd{lp:FI}(hL:Dy lp)(G:AX):Ov G 19 (SC (J8 lp G)):=
 .mk Rq <| sf2 hL (an:=nG lp G) (λ_ _=>obs (by kernel_rfl)) λc a0 a1 H n k=>by kernel_rfl
def qE:Ta:=λlp G c k=>.n
theorem Yc{lp:FI}(hL:Dy lp)(G:AX):Ov G 21 (SC (Lp lp G)):=
 .mk Tq <| sf2 hL (an:=qE lp G) (λ_ _=>obs (by kernel_rfl)) λc a0 a1 H n k=>by kernel_rfl
def uI:Ta:=λlp G c k=>.n
theorem rC{lp:FI}(hL:Dy lp)(G:AX):Ov G 25 (ar0 (cO lp G)):=
 .mk sS <| sf0 hL (an:=uI lp G) (λ_ _=>obs (by kernel_rfl)) λc H n k=>by kernel_rfl
def yX:Ta:=λlp G c k=>(.s .n (.j (λR=>U6 lp G c k (rg R q2)) (.s .n (.b (.l _ (YB lp G c k) (λR H n=>(rg R q0,rg R q2,rg R q12,rg R q13,rg R q14,H,n)) λih7=>(.s .n (.s .n (.j (λR=>QG lp G c k ih7 (rg R q0) (rg R q2) (rg R q12) (rg R q13) (rg R q14)) (.b (.s .n (.s .n (.s .n (.b (.l _ (Rf lp G c k ih7) (λR H n=>(rg R q0,rg R q2,rg R q4,rg R q5,rg R q12,rg R q13,rg R q14,rg R q26,rg R q27,rg R q28,H,n)) λih22=>.n)))))) .n)))))) .n))
theorem gZ{lp:FI}(hL:Dy lp)(G:AX):Ov G 26 (N9 (Qd lp G)):=
 .mk XB <| xM hL (an:=yX lp G) (λ_ _=>obs (by kernel_rfl)) λc a0 H n k=>by kernel_rfl
def AGN:Ta:=λlp G c k=>.n
theorem zK{lp:FI}(hL:Dy lp)(G:AX):Ov G 29 (ar0 (bP lp G)):=
 .mk qV <| sf0 hL (an:=AGN lp G) (λ_ _=>obs (by kernel_rfl)) λc H n k=>by kernel_rfl
def Zz:Ta:=λlp G c k=>(.s .n (.s .n (.s .n (.s .n (.s .n (.j (λR=>Js lp G c k (rg R q0) (rg R q8) (rg R q12) (rg R q13) (rg R q15)) (.s .n (.b (.l _ (O9 lp G c k) (λR H n=>(rg R q0,rg R q8,rg R q12,rg R q13,rg R q15,rg R q45,rg R q46,rg R q47,H,n)) λih51=>.n))) (.s .n (.j (λR=>Ee lp G c k (rg R q0) (rg R q8) (rg R q18)) .n .n))))))))
theorem SE{lp:FI}(hL:Dy lp)(G:AX):Ov G 30 (ar4 (GX lp G)):=
 .mk MG <| sf4 hL (an:=Zz lp G) (λ_ _=>obs (by kernel_rfl)) λc a0 a1 a2 a3 H n k=>by kernel_rfl
def AAM:Ta:=λlp G c k=>.n
theorem AAQ{lp:FI}(hL:Dy lp)(G:AX):Ov G 31 (SC (oK lp G)):=
 .mk ABU <| sf2 hL (an:=AAM lp G) (λ_ _=>obs (by kernel_rfl)) λc a0 a1 H n k=>by kernel_rfl
def qW:Ta:=λlp G c k=>.n
theorem pF{lp:FI}(hL:Dy lp)(G:AX):Ov G 32 (N9 (ZX lp G)):=
 .mk qZ <| xM hL (an:=qW lp G) (λ_ _=>obs (by kernel_rfl)) λc a0 H n k=>by kernel_rfl
def ug:Ta:=λlp G c k=>.n
theorem bU{lp:FI}(hL:Dy lp)(G:AX):Ov G 33 (ar3 (PD lp G)):=
 .mk Vf <| sf3 hL (an:=ug lp G) (λ_ _=>obs (by kernel_rfl)) λc a0 a1 a2 H n k=>by kernel_rfl
def yV:Ta:=λlp G c k=>.n
theorem gW{lp:FI}(hL:Dy lp)(G:AX):Ov G 34 (N9 (QZ lp G)):=
 .mk XE <| xM hL (an:=yV lp G) (λ_ _=>obs (by kernel_rfl)) λc a0 H n k=>by kernel_rfl
def yQ:Ta:=λlp G c k=>.n
theorem iE{lp:FI}(hL:Dy lp)(G:AX):Ov G 35 (N9 (Qj lp G)):=
 .mk XL <| xM hL (an:=yQ lp G) (λ_ _=>obs (by kernel_rfl)) λc a0 H n k=>by kernel_rfl
def nR:Ta:=λlp G c k=>(.s .n (.s .n (.j (λR=>Oe lp G c k) (.s .n (.b (.l _ (NV lp G c k) (λR H n=>(rg R q1,rg R q30,rg R q31,rg R q32,H,n)) λih24=>(.s .n (.s .n (.j (λR=>FC lp G c k ih24 (rg R q1) (rg R q30) (rg R q31) (rg R q32)) (.b (.s .n (.s .n (.s .n (.j (λR=>E8 lp G c k ih24 (rg R q1) (rg R q4) (rg R q6) (rg R q30) (rg R q31) (rg R q32)) .n (.s .n (.s .n (.b (.l _ (Nj lp G c k ih24) (λR H n=>(rg R q1,rg R q4,rg R q30,rg R q31,rg R q32,rg R q83,rg R q84,rg R q85,H,n)) λih71=>.n))))))))) .n)))))) .n)))
theorem Xf{lp:FI}(hL:Dy lp)(G:AX):Ov G 38 (N9 (J7 lp G)):=
 .mk RZ <| xM hL (an:=nR lp G) (λ_ _=>obs (by kernel_rfl)) λc a0 H n k=>by kernel_rfl
def AFy:Ta:=λlp G c k=>(.s .n (.s .n (.j (λR=>aA lp G c k (rg R q3)) (.s .n (.b (.l _ (jG lp G c k) (λR H n=>(rg R q3,rg R q10,rg R q11,rg R q12,H,n)) λih7=>.n))) .n)))
theorem xK{lp:FI}(hL:Dy lp)(G:AX):Ov G 39 (N9 (YA lp G)):=
 .mk jC <| xM hL (an:=AFy lp G) (λ_ _=>obs (by kernel_rfl)) λc a0 H n k=>by kernel_rfl
def nI:Ta:=λlp G c k=>(.s .n (.s .n (.s .n (.s .n (.s .n (.s .n (.j (λR=>Jr lp G c k (rg R q0) (rg R q5)) (.s .n (.b (.l _ (Nb lp G c k) (λR H n=>(rg R q0,rg R q5,rg R q67,rg R q68,rg R q69,H,n)) λih74=>.n))) (.j (λR=>OU lp G c k) (.s .n (.b (.l _ (UF lp G c k) (λR H n=>(rg R q0,rg R q5,rg R q92,rg R q93,rg R q94,H,n)) λih37=>.n))) .n))))))))
theorem Xg{lp:FI}(hL:Dy lp)(G:AX):Ov G 40 (SC (KC lp G)):=
 .mk Ru <| sf2 hL (an:=nI lp G) (λ_ _=>obs (by kernel_rfl)) λc a0 a1 H n k=>by kernel_rfl
def qP:Ta:=λlp G c k=>(.s .n (.j (λR=>Qc lp G c k (rg R q0) (rg R q3)) (.s .n (.b (.l _ (Uo lp G c k) (λR H n=>(rg R q0,rg R q3,rg R q17,rg R q18,rg R q19,H,n)) λih61=>.n))) (.s .n (.j (λR=>KP lp G c k (rg R q0) (rg R q3)) (.s .n (.b (.l _ (OZ lp G c k) (λR H n=>(rg R q0,rg R q3,rg R q42,rg R q43,rg R q44,H,n)) λih30=>.n))) (.j (λR=>PX lp G c k) (.s .n (.b (.l _ (VH lp G c k) (λR H n=>(rg R q0,rg R q73,rg R q74,rg R q75,H,n)) λih15=>.n))) .n)))))
theorem Y5{lp:FI}(hL:Dy lp)(G:AX):Ov G 41 (SC (LY lp G)):=
 .mk Ti <| sf2 hL (an:=qP lp G) (λ_ _=>obs (by kernel_rfl)) λc a0 a1 H n k=>by kernel_rfl
def qL:Ta:=λlp G c k=>.n
theorem YO{lp:FI}(hL:Dy lp)(G:AX):Ov G 42 (SC (LU lp G)):=
 .mk TW <| sf2 hL (an:=qL lp G) (λ_ _=>obs (by kernel_rfl)) λc a0 a1 H n k=>by kernel_rfl
def nH:Ta:=λlp G c k=>(.s .n (.s .n (.j (λR=>Pm lp G c k (rg R q7)) (.s .n (.b (.l _ (U3 lp G c k) (λR H n=>(rg R q0,rg R q2,rg R q7,rg R q23,rg R q24,rg R q25,H,n)) λih9=>.n))) .n)))
theorem XP{lp:FI}(hL:Dy lp)(G:AX):Ov G 43 (ar3 (J4 lp G)):=
 .mk Rk <| sf3 hL (an:=nH lp G) (λ_ _=>obs (by kernel_rfl)) λc a0 a1 a2 H n k=>by kernel_rfl
def nK:Ta:=λlp G c k=>(.s .n (.j (λR=>PU lp G c k (rg R q4)) (.s .n (.b (.l _ (Ut lp G c k) (λR H n=>(rg R q1,rg R q4,rg R q9,rg R q10,rg R q11,H,n)) λih9=>.n))) .n))
theorem XO{lp:FI}(hL:Dy lp)(G:AX):Ov G 44 (SC (J6 lp G)):=
 .mk Rt <| sf2 hL (an:=nK lp G) (λ_ _=>obs (by kernel_rfl)) λc a0 a1 H n k=>by kernel_rfl
def uU:Ta:=λlp G c k=>.n
theorem bK{lp:FI}(hL:Dy lp)(G:AX):Ov G 45 (SC (PL lp G)):=
 .mk Vs <| sf2 hL (an:=uU lp G) (λ_ _=>obs (by kernel_rfl)) λc a0 a1 H n k=>by kernel_rfl
def Uw:Ta:=λlp G c k=>.n
theorem LM{lp:FI}(hL:Dy lp)(G:AX):Ov G 46 (SC (Dv lp G)):=
 .mk G7 <| sf2 hL (an:=Uw lp G) (λ_ _=>obs (by kernel_rfl)) λc a0 a1 H n k=>by kernel_rfl
def mQ:Ta:=λlp G c k=>(.s .n (.j (λR=>Pj lp G c k) (.s .n (.b (.l _ (VD lp G c k) (λR H n=>(rg R q0,rg R q9,rg R q10,rg R q11,H,n)) λih3=>(.s .n (.s .n (.j (λR=>Ig lp G c k ih3 (rg R q0) (rg R q9) (rg R q10) (rg R q11)) .n .n)))))) .n))
theorem XR{lp:FI}(hL:Dy lp)(G:AX):Ov G 47 (SC (KJ lp G)):=
 .mk Ro <| sf2 hL (an:=mQ lp G) (λ_ _=>obs (by kernel_rfl)) λc a0 a1 H n k=>by kernel_rfl
def iT:Ta:=λlp G c k=>(.s .n (.s .n (.s .n (.j (λR=>GZ lp G c k (rg R q0) (rg R q3) (rg R q4)) .n (.s .n (.s .n (.s .n (.j (λR=>MF lp G c k) (.b (.l _ (Kt lp G c k) (λR H n=>(rg R q0,H,n)) λih30=>.n)) .n))))))))
theorem VX{lp:FI}(hL:Dy lp)(G:AX):Ov G 49 (N9 (JE lp G)):=
 .mk PW <| xM hL (an:=iT lp G) (λ_ _=>obs (by kernel_rfl)) λc a0 H n k=>by kernel_rfl
def AJh:Ta:=λlp G c k=>.n
theorem ACh{lp:FI}(hL:Dy lp)(G:AX):Ov G 50 (N9 (kX lp G)):=
 .mk vY <| xM hL (an:=AJh lp G) (λ_ _=>obs (by kernel_rfl)) λc a0 H n k=>by kernel_rfl
def jZ:Ta:=λlp G c k=>(.s .n (.s .n (.j (λR=>OI lp G c k (rg R q9)) (.s .n (.b (.l _ (UY lp G c k) (λR H n=>(rg R q0,rg R q2,rg R q3,rg R q9,rg R q25,rg R q26,rg R q27,H,n)) λih9=>.n))) .n)))
theorem WX{lp:FI}(hL:Dy lp)(G:AX):Ov G 53 (ar4 (Ji lp G)):=
 .mk QU <| sf4 hL (an:=jZ lp G) (λ_ _=>obs (by kernel_rfl)) λc a0 a1 a2 a3 H n k=>by kernel_rfl
def ZI:Ta:=λlp G c k=>(.s .n (.s .n (.j (λR=>O8 lp G c k (rg R q6) (rg R q7)) (.s .n (.b (.l _ (OA lp G c k) (λR H n=>(rg R q0,rg R q5,rg R q6,rg R q7,rg R q26,rg R q27,rg R q28,H,n)) λih16=>(.s .n (.s .n (.j (λR=>GK lp G c k ih16 (rg R q0) (rg R q5) (rg R q6) (rg R q7) (rg R q26) (rg R q27) (rg R q28)) (.b (.s .n (.s .n (.s .n (.s .n (.b (.l _ (OC lp G c k ih16) (λR H n=>(rg R q0,rg R q5,rg R q6,rg R q7,rg R q13,rg R q26,rg R q27,rg R q28,rg R q42,rg R q43,rg R q44,H,n)) λih32=>.n))))))) .n)))))) .n)))
theorem RJ{lp:FI}(hL:Dy lp)(G:AX):Ov G 54 (ar3 (Fv lp G)):=
 .mk KW <| sf3 hL (an:=ZI lp G) (λ_ _=>obs (by kernel_rfl)) λc a0 a1 a2 H n k=>by kernel_rfl
def ZO:Ta:=λlp G c k=>(.s .n (.s .n (.j (λR=>DY lp G c k (rg R q3) (rg R q4) (rg R q5) (rg R q6) (rg R q8)) .n (.s .n (.j (λR=>JV lp G c k (rg R q4) (rg R q5) (rg R q6) (rg R q8) (rg R q9)) (.s .n (.b (.l _ (Nk lp G c k) (λR H n=>(rg R q4,rg R q5,rg R q6,rg R q8,rg R q9,rg R q52,rg R q53,rg R q54,H,n)) λih223=>.n))) (.s .n (.s .n (.j (λR=>CZ lp G c k (rg R q4) (rg R q8)) (.b (.l _ (Fp lp G c k) (λR H n=>(rg R q4,rg R q5,rg R q6,rg R q8,rg R q9,rg R q12,rg R q13,H,n)) λih34=>(.s .n (.b (.s .n (.s .n (.s .n (.s .n (.s .n (.s .n (.s .n (.s .n (.b (.s .n (.c .n (.s .n (.c .n (.s .n (.c .n (.s .n (.c .n (.s .n (.c .n (.s .n (.c .n (.s .n (.c .n (.j (λR=>CS lp G c k ih34 (rg R q4) (rg R q5) (rg R q6) (rg R q8) (rg R q9) (rg R q12) (rg R q13) (rg R q14) (rg R q15) (rg R q16) (rg R ATk)) .n (.c (.s .n (.s .n (.j (λR=>EH lp G c k ih34 (rg R q4) (rg R q5) (rg R q6) (rg R q8) (rg R q9) (rg R q12) (rg R q13) (rg R q14) (rg R q15) (rg R q16) (rg R q18) (rg R q19)) .n (.s .n (.j (λR=>Fb lp G c k ih34 (rg R q4) (rg R q5) (rg R q6) (rg R q8) (rg R q9) (rg R q12) (rg R q13) (rg R q14) (rg R q16) (rg R q18) (rg R q20)) (.s .n (.b (.l _ (Nq lp G c k ih34) (λR H n=>(rg R q4,rg R q5,rg R q6,rg R q8,rg R q9,rg R q12,rg R q13,rg R q14,rg R q15,rg R q16,rg R q18,rg R q20,rg R q21,H,n)) λih206=>.n))) (.s .n (.s .n (.j (λR=>ED lp G c k ih34 (rg R q4) (rg R q5) (rg R q6) (rg R q8) (rg R q9) (rg R q12) (rg R q13) (rg R q16) (rg R q18) (rg R q20) (rg R q22)) .n .n)))))))) .n))))))))))))))))))))))))))))) .n))))))))
theorem RQ{lp:FI}(hL:Dy lp)(G:AX):Ov G 55 (ar4 (Fz lp G)):=
 .mk Ko <| sf4 hL (an:=ZO lp G) (λ_ _=>obs (by kernel_rfl)) λc a0 a1 a2 a3 H n k=>by kernel_rfl
def vT:Ta:=λlp G c k=>.n
theorem dP{lp:FI}(hL:Dy lp)(G:AX):Ov G 56 (N9 (O4 lp G)):=
 .mk Vq <| xM hL (an:=vT lp G) (λ_ _=>obs (by kernel_rfl)) λc a0 H n k=>by kernel_rfl
def oZ:Ta:=λlp G c k=>(.s .n (.s .n (.s .n (.j (λR=>PS lp G c k (rg R q1)) (.s .n (.b (.l _ (Jq lp G c k) (λR H n=>(rg R q1,rg R q3,rg R q50,rg R q51,rg R q52,H,n)) λih77=>.n))) (.s .n (.j (λR=>Py lp G c k) (.s .n (.b (.l _ (Oj lp G c k) (λR H n=>(rg R q3,rg R q76,rg R q77,rg R q78,H,n)) λih43=>.n))) .n))))))
theorem YE{lp:FI}(hL:Dy lp)(G:AX):Ov G 58 (N9 (LQ lp G)):=
 .mk UC <| xM hL (an:=oZ lp G) (λ_ _=>obs (by kernel_rfl)) λc a0 H n k=>by kernel_rfl
def mM:Ta:=λlp G c k=>(.s .n (.j (λR=>Pv lp G c k (rg R q1)) (.s .n (.b (.l _ (Nu lp G c k) (λR H n=>(rg R q1,rg R q28,rg R q29,rg R q30,H,n)) λih97=>.n))) (.j (λR=>P6 lp G c k (rg R q1)) (.s .n (.b (.l _ (NK lp G c k) (λR H n=>(rg R q1,rg R q38,rg R q39,rg R q40,H,n)) λih73=>.n))) (.j (λR=>PZ lp G c k (rg R q1)) (.s .n (.b (.l _ (Nw lp G c k) (λR H n=>(rg R q1,rg R q49,rg R q50,rg R q51,H,n)) λih60=>.n))) (.j (λR=>Pg lp G c k (rg R q1)) (.s .n (.b (.l _ (NP lp G c k) (λR H n=>(rg R q1,rg R q60,rg R q61,rg R q62,H,n)) λih29=>.n))) (.j (λR=>P5 lp G c k) (.s .n (.b (.l _ (Nl lp G c k) (λR H n=>(rg R q92,rg R q93,rg R q94,H,n)) λih10=>.n))) .n))))))
theorem Xj{lp:FI}(hL:Dy lp)(G:AX):Ov G 59 (N9 (KF lp G)):=
 .mk Rz <| xM hL (an:=mM lp G) (λ_ _=>obs (by kernel_rfl)) λc a0 H n k=>by kernel_rfl
def uM:Ta:=λlp G c k=>.n
theorem ZR{lp:FI}(hL:Dy lp)(G:AX):Ov G 60 (SC (Nr lp G)):=
 .mk Uu <| sf2 hL (an:=uM lp G) (λ_ _=>obs (by kernel_rfl)) λc a0 a1 H n k=>by kernel_rfl
def oV:Ta:=λlp G c k=>.n
theorem Ye{lp:FI}(hL:Dy lp)(G:AX):Ov G 61 (SC (LW lp G)):=
 .mk TY <| sf2 hL (an:=oV lp G) (λ_ _=>obs (by kernel_rfl)) λc a0 a1 H n k=>by kernel_rfl
def ABl:Ta:=λlp G c k=>(.s .n (.j (λR=>TK lp G c k (rg R q1)) (.s .n (.b (.l _ (Ze lp G c k) (λR H n=>(rg R q1,rg R q7,rg R q8,H,n)) λih29=>.n))) (.j (λR=>Wq lp G c k) (.s .n (.b (.l _ (bI lp G c k) (λR H n=>(rg R q1,rg R q32,rg R q33,H,n)) λih7=>.n))) .n)))
theorem oD{lp:FI}(hL:Dy lp)(G:AX):Ov G 62 (N9 (U4 lp G)):=
 .mk aQ <| xM hL (an:=ABl lp G) (λ_ _=>obs (by kernel_rfl)) λc a0 H n k=>by kernel_rfl
def qM:Ta:=λlp G c k=>(.s .n (.j (λR=>Qh lp G c k (rg R q4)) (.s .n (.b (.l _ (VY lp G c k) (λR H n=>(rg R q1,rg R q4,rg R q9,rg R q10,rg R q11,H,n)) λih9=>.n))) .n))
theorem YK{lp:FI}(hL:Dy lp)(G:AX):Ov G 63 (SC (Lj lp G)):=
 .mk Tc <| sf2 hL (an:=qM lp G) (λ_ _=>obs (by kernel_rfl)) λc a0 a1 H n k=>by kernel_rfl
def Uc:Ta:=λlp G c k=>(.s .n (.s .n (.j (λR=>GH lp G c k) (.s .n (.b (.l _ (Ja lp G c k) (λR H n=>(rg R q0,rg R q1,rg R q12,rg R q13,H,n)) λih6=>.n))) .n)))
theorem KT{lp:FI}(hL:Dy lp)(G:AX):Ov G 64 (SC (Df lp G)):=
 .mk Gl <| sf2 hL (an:=Uc lp G) (λ_ _=>obs (by kernel_rfl)) λc a0 a1 H n k=>by kernel_rfl
def WW:Ta:=λlp G c k=>(.s .n (.j (λR=>IB lp G c k) (.s .n (.b (.l _ (Ky lp G c k) (λR H n=>(rg R q0,rg R q1,rg R q7,rg R q8,H,n)) λih3=>.n))) .n))
theorem OB{lp:FI}(hL:Dy lp)(G:AX):Ov G 65 (SC (EM lp G)):=
 .mk JG <| sf2 hL (an:=WW lp G) (λ_ _=>obs (by kernel_rfl)) λc a0 a1 H n k=>by kernel_rfl
def ADd:Ta:=λlp G c k=>.n
theorem tH{lp:FI}(hL:Dy lp)(G:AX):Ov G 66 (N9 (WV lp G)):=
 .mk fV <| xM hL (an:=ADd lp G) (λ_ _=>obs (by kernel_rfl)) λc a0 H n k=>by kernel_rfl
def tu:Ta:=λlp G c k=>.n
theorem Zi{lp:FI}(hL:Dy lp)(G:AX):Ov G 67 (N9 (Nh lp G)):=
 .mk U8 <| xM hL (an:=tu lp G) (λ_ _=>obs (by kernel_rfl)) λc a0 H n k=>by kernel_rfl
def dh:Ta:=λlp G c k=>(.s .n (.s .n (.s .n (.s .n (.s .n (.s .n (.j (λR=>IQ lp G c k (rg R q0) (rg R q1) (rg R q5) (rg R q7) (rg R q9)) (.s .n (.b (.l _ (G6 lp G c k) (λR H n=>(rg R q0,rg R q1,rg R q5,rg R q7,rg R q9,rg R q63,rg R q64,rg R q65,H,n)) λih93=>.n))) (.j (λR=>FN lp G c k (rg R q0) (rg R q1) (rg R q9)) (.s .n (.b (.l _ (KH lp G c k) (λR H n=>(rg R q0,rg R q1,rg R q7,rg R q9,rg R AUM,rg R ATb,rg R AT2,H,n)) λih53=>.n))) (.j (λR=>IL lp G c k) .n .n)))))))))
theorem VE{lp:FI}(hL:Dy lp)(G:AX):Ov G 70 (ar3 (IX lp G)):=
 .mk OO <| sf3 hL (an:=dh lp G) (λ_ _=>obs (by kernel_rfl)) λc a0 a1 a2 H n k=>by kernel_rfl
def iW:Ta:=λlp G c k=>.n
theorem VZ{lp:FI}(hL:Dy lp)(G:AX):Ov G 71 (N9 (JA lp G)):=
 .mk Ph <| xM hL (an:=iW lp G) (λ_ _=>obs (by kernel_rfl)) λc a0 H n k=>by kernel_rfl
def fP:Ta:=λlp G c k=>(.s .n (.s .n (.s (.s .n (.b (.s .n (.c .n (.s .n (.c .n (.s .n (.c .n (.s .n (.c .n (.s .n (.c .n (.j (λR=>Bc lp G c k (rg R q0) (rg R q1) (rg R q5) (rg R q7) (rg R q8) (rg R q20) (rg R q80)) .n (.c .n (.j (λR=>DT lp G c k (rg R q0) (rg R q1) (rg R q5) (rg R q7) (rg R q8) (rg R q20) (rg R q98)) .n (.c .n (.s .n (.c .n (.s .n (.c .n (.j (λR=>DU lp G c k (rg R q0) (rg R q1) (rg R q5) (rg R q7) (rg R q8) (rg R q20) (rg R AUn)) .n .n))))))))))))))))))))) .n)))
theorem Uj{lp:FI}(hL:Dy lp)(G:AX):Ov G 72 (ar3 (Ib lp G)):=
 .mk Ot <| sf3 hL (an:=fP lp G) (λ_ _=>obs (by kernel_rfl)) λc a0 a1 a2 H n k=>by kernel_rfl
def bH:Ta:=λlp G c k=>.n
theorem UQ{lp:FI}(hL:Dy lp)(G:AX):Ov G 73 (ar3 (Gy lp G)):=
 .mk NJ <| sf3 hL (an:=bH lp G) (λ_ _=>obs (by kernel_rfl)) λc a0 a1 a2 H n k=>by kernel_rfl
def o9:Ta:=λlp G c k=>.n
theorem YL{lp:FI}(hL:Dy lp)(G:AX):Ov G 77 (ar3 (Lh lp G)):=
 .mk Tj <| sf3 hL (an:=o9 lp G) (λ_ _=>obs (by kernel_rfl)) λc a0 a1 a2 H n k=>by kernel_rfl
def AEx:Ta:=λlp G c k=>.n
theorem yA{lp:FI}(hL:Dy lp)(G:AX):Ov G 79 (ar0 (YJ lp G)):=
 .mk jf <| sf0 hL (an:=AEx lp G) (λ_ _=>obs (by kernel_rfl)) λc H n k=>by kernel_rfl
def zk:Ta:=λlp G c k=>.n
theorem lI{lp:FI}(hL:Dy lp)(G:AX):Ov G 81 (ar0 (Sr lp G)):=
 .mk Y2 <| sf0 hL (an:=zk lp G) (λ_ _=>obs (by kernel_rfl)) λc H n k=>by kernel_rfl
def qK:Ta:=λlp G c k=>.n
theorem YG{lp:FI}(hL:Dy lp)(G:AX):Ov G 82 (N9 (LD lp G)):=
 .mk TP <| xM hL (an:=qK lp G) (λ_ _=>obs (by kernel_rfl)) λc a0 H n k=>by kernel_rfl
def vJ:Ta:=λlp G c k=>.n
theorem dB{lp:FI}(hL:Dy lp)(G:AX):Ov G 83 (N9 (O3 lp G)):=
 .mk Vg <| xM hL (an:=vJ lp G) (λ_ _=>obs (by kernel_rfl)) λc a0 H n k=>by kernel_rfl
def ZG:Ta:=λlp G c k=>(.s .n (.j (λR=>QE lp G c k (rg R q4)) (.s .n (.b (.l _ (O5 lp G c k) (λR H n=>(rg R q1,rg R q4,rg R q11,rg R q12,rg R q13,H,n)) λih9=>.n))) .n))
theorem RI{lp:FI}(hL:Dy lp)(G:AX):Ov G 84 (SC (F7 lp G)):=
 .mk KY <| sf2 hL (an:=ZG lp G) (λ_ _=>obs (by kernel_rfl)) λc a0 a1 H n k=>by kernel_rfl
def aZ:Ta:=λlp G c k=>(.s .n (.j (λR=>Es lp G c k (rg R q4)) .n .n))
theorem SN{lp:FI}(hL:Dy lp)(G:AX):Ov G 85 (SC (GY lp G)):=
 .mk MK <| sf2 hL (an:=aZ lp G) (λ_ _=>obs (by kernel_rfl)) λc a0 a1 H n k=>by kernel_rfl
def Yi:Ta:=λlp G c k=>.n
theorem Yd{lp:FI}(hL:Dy lp)(G:AX):Ov G 86 (N9 (RV lp G)):=
 .mk Yt <| xM hL (an:=Yi lp G) (λ_ _=>obs (by kernel_rfl)) λc a0 H n k=>by kernel_rfl
def Xz:Ta:=λlp G c k=>.n
theorem QD{lp:FI}(hL:Dy lp)(G:AX):Ov G 87 (SC (Et lp G)):=
 .mk Ju <| sf2 hL (an:=Xz lp G) (λ_ _=>obs (by kernel_rfl)) λc a0 a1 H n k=>by kernel_rfl
def Xp:Ta:=λlp G c k=>.n
theorem P8{lp:FI}(hL:Dy lp)(G:AX):Ov G 88 (ar4 (Ey lp G)):=
 .mk Jl <| sf4 hL (an:=Xp lp G) (λ_ _=>obs (by kernel_rfl)) λc a0 a1 a2 a3 H n k=>by kernel_rfl
def Yu:Ta:=λlp G c k=>(.s .n (.s .n (.b (.s .n (.c .n (.s .n (.c .n (.s .n (.c .n (.s .n (.c .n (.s .n (.c .n (.s .n (.c (.s .n (.s .n (.j (λR=>D8 lp G c k (rg R q0) (rg R q4) (rg R q6) (rg R q7) (rg R q10)) (.s .n (.b (.l _ (FH lp G c k) (λR H n=>(rg R q0,rg R q4,rg R q6,rg R q7,rg R q10,rg R AQf,rg R AQZ,rg R APX,H,n)) λih69=>(.s .n (.s .n (.j (λR=>JB lp G c k ih69 (rg R q0) (rg R q4) (rg R q6) (rg R q7) (rg R q10) (rg R AQf) (rg R AQZ) (rg R APX)) (.b (.s .n (.s .n (.s .n (.b (.l _ (Np lp G c k ih69) (λR H n=>(rg R q0,rg R q4,rg R q6,rg R q7,rg R q10,rg R AQf,rg R AQZ,rg R APX,rg R AUW,rg R AUg,rg R AUI,H,n)) λih86=>.n)))))) .n)))))) .n))) (.s .n (.c .n (.j (λR=>CG lp G c k (rg R q0) (rg R q3) (rg R q4) (rg R q6) (rg R q7) (rg R q27) (rg R ATt)) .n (.c .n (.j (λR=>BI lp G c k (rg R q0) (rg R q3) (rg R q4) (rg R q6) (rg R q7) (rg R AUL)) .n .n))))))))))))))))))))
theorem QN{lp:FI}(hL:Dy lp)(G:AX):Ov G 89 (ar5 (FP lp G)):=
 .mk J5 <| sf5 hL (an:=Yu lp G) (λ_ _=>obs (by kernel_rfl)) λc a0 a1 a2 a3 a4 H n k=>by kernel_rfl
def PY:Ta:=λlp G c k=>.n
theorem Ic{lp:FI}(hL:Dy lp)(G:AX):Ov G 90 (SC (CP lp G)):=
 .mk EZ <| sf2 hL (an:=PY lp G) (λ_ _=>obs (by kernel_rfl)) λc a0 a1 H n k=>by kernel_rfl
def lK:Ta:=λlp G c k=>.n
theorem WS{lp:FI}(hL:Dy lp)(G:AX):Ov G 91 (N9 (Jh lp G)):=
 .mk Qk <| xM hL (an:=lK lp G) (λ_ _=>obs (by kernel_rfl)) λc a0 H n k=>by kernel_rfl
def ABW:Ta:=λlp G c k=>.n
theorem jQ{lp:FI}(hL:Dy lp)(G:AX):Ov G 92 (N9 (TD lp G)):=
 .mk YD <| xM hL (an:=ABW lp G) (λ_ _=>obs (by kernel_rfl)) λc a0 H n k=>by kernel_rfl
def ADk:Ta:=λlp G c k=>.n
theorem rP{lp:FI}(hL:Dy lp)(G:AX):Ov G 93 (N9 (Wh lp G)):=
 .mk fB <| xM hL (an:=ADk lp G) (λ_ _=>obs (by kernel_rfl)) λc a0 H n k=>by kernel_rfl
def jM:Ta:=λlp G c k=>.n
theorem WB{lp:FI}(hL:Dy lp)(G:AX):Ov G 94 (ar3 (Je lp G)):=
 .mk Qa <| sf3 hL (an:=jM lp G) (λ_ _=>obs (by kernel_rfl)) λc a0 a1 a2 H n k=>by kernel_rfl
def AAz:Ta:=λlp G c k=>(.s .n (.j (λR=>Nz lp G c k (rg R q6)) .n .n))
theorem kY{lp:FI}(hL:Dy lp)(G:AX):Ov G 95 (ar3 (Sl lp G)):=
 .mk YU <| sf3 hL (an:=AAz lp G) (λ_ _=>obs (by kernel_rfl)) λc a0 a1 a2 H n k=>by kernel_rfl
def Ua:Ta:=λlp G c k=>.n
theorem KU{lp:FI}(hL:Dy lp)(G:AX):Ov G 96 (N9 (Dc lp G)):=
 .mk Gn <| xM hL (an:=Ua lp G) (λ_ _=>obs (by kernel_rfl)) λc a0 H n k=>by kernel_rfl
def fQ:Ta:=λlp G c k=>.n
theorem Ue{lp:FI}(hL:Dy lp)(G:AX):Ov G 97 (ar3 (Ia lp G)):=
 .mk Ol <| sf3 hL (an:=fQ lp G) (λ_ _=>obs (by kernel_rfl)) λc a0 a1 a2 H n k=>by kernel_rfl
def lF:Ta:=λlp G c k=>.n
theorem WA{lp:FI}(hL:Dy lp)(G:AX):Ov G 98 (N9 (Jg lp G)):=
 .mk Qb <| xM hL (an:=lF lp G) (λ_ _=>obs (by kernel_rfl)) λc a0 H n k=>by kernel_rfl
def iY:Ta:=λlp G c k=>(.s .n (.j (λR=>NU lp G c k) (.s .n (.b (.l _ (SV lp G c k) (λR H n=>(rg R q0,rg R q1,rg R q2,rg R q7,H,n)) λih4=>.n))) .n))
theorem VW{lp:FI}(hL:Dy lp)(G:AX):Ov G 99 (ar3 (JC lp G)):=
 .mk PO <| sf3 hL (an:=iY lp G) (λ_ _=>obs (by kernel_rfl)) λc a0 a1 a2 H n k=>by kernel_rfl
def aj:Ta:=λlp G c k=>(.s .n (.s (.s .n (.b (.s .n (.c .n (.s .n (.c .n (.j (λR=>Dk lp G c k (rg R q0) (rg R q1) (rg R q5) (rg R q14) (rg R q66)) .n (.c (.s .n (.s .n (.j (λR=>Cm lp G c k (rg R q0) (rg R q1) (rg R q7) (rg R q8) (rg R q9)) .n .n))) (.s .n (.c .n (.s .n (.c .n (.j (λR=>DZ lp G c k (rg R q0) (rg R q1) (rg R q5) (rg R ATz)) .n .n))))))))))))) .n))
theorem SX{lp:FI}(hL:Dy lp)(G:AX):Ov G 100 (ar3 (Gg lp G)):=
 .mk MI <| sf3 hL (an:=aj lp G) (λ_ _=>obs (by kernel_rfl)) λc a0 a1 a2 H n k=>by kernel_rfl
def mV:Ta:=λlp G c k=>.n
theorem XT{lp:FI}(hL:Dy lp)(G:AX):Ov G 103 (ar3 (J9 lp G)):=
 .mk Ri <| sf3 hL (an:=mV lp G) (λ_ _=>obs (by kernel_rfl)) λc a0 a1 a2 H n k=>by kernel_rfl
def uo:Ta:=λlp G c k=>.n
theorem dJ{lp:FI}(hL:Dy lp)(G:AX):Ov G 104 (N9 (PI lp G)):=
 .mk Vm <| xM hL (an:=uo lp G) (λ_ _=>obs (by kernel_rfl)) λc a0 H n k=>by kernel_rfl
def Yj:Ta:=λlp G c k=>.n
theorem QM{lp:FI}(hL:Dy lp)(G:AX):Ov G 105 (ar4 (FV lp G)):=
 .mk KD <| sf4 hL (an:=Yj lp G) (λ_ _=>obs (by kernel_rfl)) λc a0 a1 a2 a3 H n k=>by kernel_rfl
def Ya:Ta:=λlp G c k=>(.s .n (.s .n (.s .n (.j (λR=>Aw lp G c k (rg R q0) (rg R q3) (rg R q4) (rg R q6) (rg R q7) (rg R q10) (rg R q11)) .n (.j (λR=>BQ lp G c k (rg R q0) (rg R q3) (rg R q4) (rg R q6) (rg R q7) (rg R q10) (rg R q11)) .n (.s .n (.s .n (.s .n (.s .n (.j (λR=>D6 lp G c k (rg R q0) (rg R q4) (rg R q7) (rg R q10) (rg R q11) (rg R q13)) (.s .n (.b (.s .n (.c .n (.j (λR=>DK lp G c k (rg R q0) (rg R q4) (rg R q6) (rg R q7) (rg R q10) (rg R q11) (rg R q12) (rg R q13) (rg R q69)) .n .n))))) .n))))))))))
theorem QO{lp:FI}(hL:Dy lp)(G:AX):Ov G 106 (ar5 (FT lp G)):=
 .mk KG <| sf5 hL (an:=Ya lp G) (λ_ _=>obs (by kernel_rfl)) λc a0 a1 a2 a3 a4 H n k=>by kernel_rfl
def Z8:Ta:=λlp G c k=>(.s .n (.s .n (.b (.s .n (.c .n (.s .n (.c .n (.s .n (.c .n (.j (λR=>Eb lp G c k (rg R q0) (rg R q1) (rg R q4) (rg R q7) (rg R q8) (rg R q11) (rg R q44)) .n (.c (.s .n (.s .n (.j (λR=>Eh lp G c k (rg R q4) (rg R q10)) .n .n))) (.s .n (.c .n (.s .n (.c .n (.j (λR=>Ea lp G c k (rg R q0) (rg R q4) (rg R q7) (rg R q8) (rg R q90)) .n .n))))))))))))))))
theorem Sj{lp:FI}(hL:Dy lp)(G:AX):Ov G 107 (ar5 (Gf lp G)):=
 .mk MC <| sf5 hL (an:=Z8 lp G) (λ_ _=>obs (by kernel_rfl)) λc a0 a1 a2 a3 a4 H n k=>by kernel_rfl
def Qx:Ta:=λlp G c k=>(.s .n (.j (λR=>Ej lp G c k) (.s .n (.b (.l _ (Ij lp G c k) (λR H n=>(rg R q0,rg R q1,rg R q7,rg R q8,H,n)) λih3=>.n))) .n))
theorem JQ{lp:FI}(hL:Dy lp)(G:AX):Ov G 108 (SC (Cb lp G)):=
 .mk FD <| sf2 hL (an:=Qx lp G) (λ_ _=>obs (by kernel_rfl)) λc a0 a1 H n k=>by kernel_rfl
def ji:Ta:=λlp G c k=>(.s .n (.s .n (.j (λR=>Oi lp G c k) (.s .n (.b (.l _ (UO lp G c k) (λR H n=>(rg R q0,rg R q2,rg R q17,rg R q18,rg R q19,H,n)) λih6=>.n))) .n)))
theorem WJ{lp:FI}(hL:Dy lp)(G:AX):Ov G 109 (ar3 (Jf lp G)):=
 .mk QL <| sf3 hL (an:=ji lp G) (λ_ _=>obs (by kernel_rfl)) λc a0 a1 a2 H n k=>by kernel_rfl
def dQ:Ta:=λlp G c k=>.n
theorem UG{lp:FI}(hL:Dy lp)(G:AX):Ov G 110 (ar3 (G8 lp G)):=
 .mk Na <| sf3 hL (an:=dQ lp G) (λ_ _=>obs (by kernel_rfl)) λc a0 a1 a2 H n k=>by kernel_rfl
def ZA:Ta:=λlp G c k=>(.s .n (.j (λR=>Oy lp G c k (rg R q0)) (.s .n (.b (.l _ (NZ lp G c k) (λR H n=>(rg R q0,rg R q2,rg R q19,rg R q20,rg R q21,H,n)) λih16=>.n))) .n))
theorem QJ{lp:FI}(hL:Dy lp)(G:AX):Ov G 111 (ar3 (FQ lp G)):=
 .mk KI <| sf3 hL (an:=ZA lp G) (λ_ _=>obs (by kernel_rfl)) λc a0 a1 a2 H n k=>by kernel_rfl
def FS(lp:FI)(G:AX):T SF:=(.n none (.n none (.n none (.n none (.n none (.n (some (SC (oK lp G))) (.n (some (SC (Lj lp G))) .e .e) (.n (some (ar3 (Sl lp G))) .e .e)) (.n (some (SC (KJ lp G))) (.n (some (ar0 (YJ lp G))) .e .e) (.n (some (ar3 (FQ lp G))) .e .e))) (.n none (.n (some (N9 (YA lp G))) (.n (some (N9 (JA lp G))) .e .e) (.n (some (ar3 (J9 lp G))) .e .e)) (.n (some (ar4 (Fz lp G))) (.n (some (SC (Et lp G))) .e .e) .e))) (.n none (.n (some (SC (J8 lp G))) (.n (some (N9 (Qj lp G))) (.n (some (N9 (Nh lp G))) .e .e) (.n (some (ar3 (JC lp G))) .e .e)) (.n none (.n (some (N9 (O3 lp G))) .e .e) .e)) (.n none (.n (some (ar3 (J4 lp G))) .e (.n (some (ar5 (Gf lp G))) .e .e)) (.n (some (N9 (KF lp G))) (.n (some (N9 (Jh lp G))) .e .e) .e)))) (.n none (.n (some (ar4 (Hl lp G))) (.n (some (SC (La lp G))) (.n (some (ar3 (PD lp G))) (.n (some (SC (EM lp G))) .e .e) (.n (some (ar3 (Ia lp G))) .e .e)) (.n (some (N9 (JE lp G))) (.n (some (ar0 (Sr lp G))) .e .e) .e)) (.n (some (ar0 (cO lp G))) (.n (some (SC (LY lp G))) (.n (some (ar3 (Gy lp G))) .e .e) (.n (some (ar4 (FV lp G))) .e .e)) (.n none (.n (some (ar5 (FP lp G))) .e .e) .e))) (.n none (.n (some (SC (Lp lp G))) .e (.n (some (ar4 (Ji lp G))) (.n (some (SC (GY lp G))) .e .e) .e)) (.n (some (ar0 (bP lp G))) (.n (some (SC (PL lp G))) (.n (some (ar3 (Lh lp G))) .e .e) (.n (some (ar3 (Jf lp G))) .e .e)) (.n (some (SC (LW lp G))) (.n (some (N9 (Wh lp G))) .e .e) .e))))) (.n none (.n none (.n none (.n none (.n (some (N9 (ZX lp G))) (.n (some (SC (Df lp G))) .e .e) (.n (some (N9 (Dc lp G))) .e .e)) .e) (.n none (.n (some (SC (KC lp G))) (.n (some (ar3 (Ib lp G))) .e .e) (.n (some (N9 (PI lp G))) .e .e)) (.n (some (N9 (O4 lp G))) (.n (some (ar4 (Ey lp G))) .e .e) .e))) (.n none (.n none (.n none .e (.n (some (ar3 (Gg lp G))) .e .e)) (.n none (.n (some (SC (F7 lp G))) .e .e) .e)) (.n none (.n (some (SC (J6 lp G))) .e (.n (some (SC (Cb lp G))) .e .e)) (.n (some (SC (Nr lp G))) (.n (some (N9 (TD lp G))) .e .e) .e)))) (.n none (.n none (.n (some (N9 (KL lp G))) (.n (some (N9 (QZ lp G))) (.n (some (N9 (WV lp G))) .e .e) (.n (some (N9 (Jg lp G))) .e .e)) (.n (some (N9 (kX lp G))) (.n (some (N9 (LD lp G))) .e .e) .e)) (.n (some (N9 (Qd lp G))) (.n (some (SC (LU lp G))) .e (.n (some (ar5 (FT lp G))) .e .e)) (.n (some (N9 (LQ lp G))) (.n (some (SC (CP lp G))) .e .e) .e))) (.n (some (N9 (WH lp G))) (.n none (.n (some (N9 (J7 lp G))) (.n (some (ar3 (IX lp G))) .e .e) .e) (.n (some (ar3 (Fv lp G))) (.n (some (N9 (RV lp G))) .e .e) .e)) (.n (some (ar4 (GX lp G))) (.n (some (SC (Dv lp G))) .e (.n (some (ar3 (G8 lp G))) .e .e)) (.n (some (N9 (U4 lp G))) (.n (some (ar3 (Je lp G))) .e .e) .e))))))
theorem AQc{lp:FI}(hL:Dy lp)(G:AX):T.All (λp s=>Ov G p.key s) (FS lp G):=(.n0 (.n0 (.n0 (.n0 (.n0 (.n1 (AAQ hL G) (.n1 (YK hL G) .e .e) (.n1 (kY hL G) .e .e)) (.n1 (XR hL G) (.n1 (yA hL G) .e .e) (.n1 (QJ hL G) .e .e))) (.n0 (.n1 (xK hL G) (.n1 (VZ hL G) .e .e) (.n1 (XT hL G) .e .e)) (.n1 (RQ hL G) (.n1 (QD hL G) .e .e) .e))) (.n0 (.n1 (Xd hL G) (.n1 (iE hL G) (.n1 (Zi hL G) .e .e) (.n1 (VW hL G) .e .e)) (.n0 (.n1 (dB hL G) .e .e) .e)) (.n0 (.n1 (XP hL G) .e (.n1 (Sj hL G) .e .e)) (.n1 (Xj hL G) (.n1 (WS hL G) .e .e) .e)))) (.n0 (.n1 (UU hL G) (.n1 (YT hL G) (.n1 (bU hL G) (.n1 (OB hL G) .e .e) (.n1 (Ue hL G) .e .e)) (.n1 (VX hL G) (.n1 (lI hL G) .e .e) .e)) (.n1 (rC hL G) (.n1 (Y5 hL G) (.n1 (UQ hL G) .e .e) (.n1 (QM hL G) .e .e)) (.n0 (.n1 (QN hL G) .e .e) .e))) (.n0 (.n1 (Yc hL G) .e (.n1 (WX hL G) (.n1 (SN hL G) .e .e) .e)) (.n1 (zK hL G) (.n1 (bK hL G) (.n1 (YL hL G) .e .e) (.n1 (WJ hL G) .e .e)) (.n1 (Ye hL G) (.n1 (rP hL G) .e .e) .e))))) (.n0 (.n0 (.n0 (.n0 (.n1 (pF hL G) (.n1 (KT hL G) .e .e) (.n1 (KU hL G) .e .e)) .e) (.n0 (.n1 (Xg hL G) (.n1 (Uj hL G) .e .e) (.n1 (dJ hL G) .e .e)) (.n1 (dP hL G) (.n1 (P8 hL G) .e .e) .e))) (.n0 (.n0 (.n0 .e (.n1 (SX hL G) .e .e)) (.n0 (.n1 (RI hL G) .e .e) .e)) (.n0 (.n1 (XO hL G) .e (.n1 (JQ hL G) .e .e)) (.n1 (ZR hL G) (.n1 (jQ hL G) .e .e) .e)))) (.n0 (.n0 (.n1 (Xh hL G) (.n1 (gW hL G) (.n1 (tH hL G) .e .e) (.n1 (WA hL G) .e .e)) (.n1 (ACh hL G) (.n1 (YG hL G) .e .e) .e)) (.n1 (gZ hL G) (.n1 (YO hL G) .e (.n1 (QO hL G) .e .e)) (.n1 (YE hL G) (.n1 (Ic hL G) .e .e) .e))) (.n1 (sU hL G) (.n0 (.n1 (Xf hL G) (.n1 (VE hL G) .e .e) .e) (.n1 (RJ hL G) (.n1 (Yd hL G) .e .e) .e)) (.n1 (SE hL G) (.n1 (LM hL G) .e (.n1 (UG hL G) .e .e)) (.n1 (oD hL G) (.n1 (WB hL G) .e .e) .e))))))
theorem AR9{lp:FI}(hL:Dy lp)(G:AX):ARt F G (FS lp G):=λf s h=>by
 have:=T.All.D5 (p:=PG f) (AQc hL G) h
 rw[zB]at this
 obtain⟨h,o⟩:=this
 exact⟨_,h,o⟩
end Go.RL
