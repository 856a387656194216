/- Part of a proof; nothing is assumed. -/
import Derived.Test.YtibbhhkcjjeclaaDoorPlain
import Derived.Test.YtibbhhkcjjeclaaDoorCode
import Derived.Test.YtibbhhkcjjeclaaDoorEngE
set_option linter.unusedVariables false
set_option linter.unusedSimpArgs false
noncomputable section
namespace Go.RL
open Go.Bv
set_option maxRecDepth 100000
abbrev Ta:=Eo->AX->Ap->KV->An
inductive Oc(G:AX)(n:Nat)(s:SF):Prop where
 |mk {af:AF} (h:T.get F n=some af) (o:AC7 G af s):Oc G n s
def dG:Ta:=λlp G c k=>(.s .n (.s .n (.s .n (.s .n (.s .n (.s .n (.j (λR=>Qn lp G c k) (.s .n (.b (.l _ (Pn lp G c k) (λR H n=>(rg R q0,rg R q1,rg R q2,rg R q13,rg R q15,rg R q47,rg R q48,rg R q49,H,n)) λih19=>(.s .n (.s .n (.j (λR=>Gu lp G c k ih19 (rg R q0) (rg R q1) (rg R q2) (rg R q13) (rg R q15) (rg R q47) (rg R q48) (rg R q49)) (.b (.s .n (.s .n (.b (.l _ (Jc lp G c k ih19) (λR H n=>(rg R q0,rg R q1,rg R q2,rg R q13,rg R q15,rg R q17,rg R q47,rg R q48,rg R q49,rg R q55,rg R q56,rg R q57,H,n)) λih31=>(.s .n (.s .n (.j (λR=>Dp lp G c k ih19 ih31 (rg R q0) (rg R q1) (rg R q2) (rg R q13) (rg R q15) (rg R q17) (rg R q47) (rg R q48) (rg R q49) (rg R q55) (rg R q56) (rg R q57)) (.b (.s .n (.s .n (.s .n (.j (λR=>Gn lp G c k ih19 ih31 (rg R q0) (rg R q1) (rg R q2) (rg R q13) (rg R q15) (rg R q17) (rg R q19) (rg R q20) (rg R q21) (rg R q47) (rg R q48) (rg R q49) (rg R q55) (rg R q56) (rg R q57)) (.s .n (.b (.l _ (Ja lp G c k ih19 ih31) (λR H n=>(rg R q0,rg R q1,rg R q2,rg R q13,rg R q15,rg R q17,rg R q19,rg R q20,rg R q21,rg R q47,rg R q48,rg R q49,rg R q55,rg R q56,rg R q57,rg R q65,rg R q66,rg R q67,H,n)) λih62=>.n))) .n))))) .n)))))))) .n)))))) .n)))))))
theorem Tv{lp:Eo}(hL:Dj lp)(G:AX):Oc G 7 (ar6 (Gg lp G)):=
 .mk NG <| sf6 hL (an:=dG lp G) (λ_ _=>obs (by kernel_rfl)) λc a0 a1 a2 a3 a4 a5 H n k=>by kernel_rfl
def yN:Ta:=λlp G c k=>(.s .n (.j (λR=>Ud lp G c k (rg R q0)) (.s .n (.b (.l _ (YP lp G c k) (λR H n=>(rg R q0,rg R q5,rg R q6,rg R q7,H,n)) λih5=>.n))) .n))
theorem iG{lp:Eo}(hL:Dj lp)(G:AX):Oc G 13 (MZ (Pj lp G)):=
 .mk Wi <| wo hL (an:=yN lp G) (λ_ _=>obs (by kernel_rfl)) λc a0 H n k=>by kernel_rfl
def AFb:Ta:=λlp G c k=>(.s .n (.s .n (.s .n (.s .n (.j (λR=>Zx lp G c k (rg R q0) (rg R q4) (rg R q5)) (.s .n (.b (.l _ (fM lp G c k) (λR H n=>(rg R q0,rg R q4,rg R q5,rg R q19,rg R q20,rg R q21,H,n)) λih33=>.n))) (.s .n (.j (λR=>X7 lp G c k (rg R q5)) (.s .n (.b (.l _ (WU lp G c k) (λR H n=>(rg R q5,rg R q73,rg R q74,rg R q75,H,n)) λih13=>.n))) .n)))))))
theorem uo{lp:Eo}(hL:Dj lp)(G:AX):Oc G 14 (MZ (Xc lp G)):=
 .mk iO <| wo hL (an:=AFb lp G) (λ_ _=>obs (by kernel_rfl)) λc a0 H n k=>by kernel_rfl
def uI:Ta:=λlp G c k=>(.s .n (.s .n (.j (λR=>QF lp G c k) (.s .n (.b (.l _ (VU lp G c k) (λR H n=>(rg R q0,rg R q3,rg R q24,rg R q25,rg R q26,H,n)) λih12=>.n))) .n)))
theorem Y1{lp:Eo}(hL:Dj lp)(G:AX):Oc G 17 (TY (MG lp G)):=
 .mk UY <| sf2 hL (an:=uI lp G) (λ_ _=>obs (by kernel_rfl)) λc a0 a1 H n k=>by kernel_rfl
def pK:Ta:=λlp G c k=>.n
theorem YX{lp:Eo}(hL:Dj lp)(G:AX):Oc G 18 (MZ (KW lp G)):=
 .mk TW <| wo hL (an:=pK lp G) (λ_ _=>obs (by kernel_rfl)) λc a0 H n k=>by kernel_rfl
def qF:Ta:=λlp G c k=>(.s .n (.s .n (.j (λR=>QT lp G c k (rg R q6)) (.b (.l _ (VW lp G c k) (λR H n=>(rg R q0,rg R q1,rg R q6,H,n)) λih2=>.n)) .n)))
theorem YZ{lp:Eo}(hL:Dj lp)(G:AX):Oc G 19 (TY (KQ lp G)):=
 .mk TG <| sf2 hL (an:=qF lp G) (λ_ _=>obs (by kernel_rfl)) λc a0 a1 H n k=>by kernel_rfl
def uU:Ta:=λlp G c k=>.n
theorem ZA{lp:Eo}(hL:Dj lp)(G:AX):Oc G 21 (TY (Ll lp G)):=
 .mk Ut <| sf2 hL (an:=uU lp G) (λ_ _=>obs (by kernel_rfl)) λc a0 a1 H n k=>by kernel_rfl
def vk:Ta:=λlp G c k=>.n
theorem vP{lp:Eo}(hL:Dj lp)(G:AX):Oc G 25 (ar0 (gZ lp G)):=
 .mk vg <| sf0 hL (an:=vk lp G) (λ_ _=>obs (by kernel_rfl)) λc H n k=>by kernel_rfl
def AAY:Ta:=λlp G c k=>(.s .n (.j (λR=>Vf lp G c k (rg R q2)) (.s .n (.b (.l _ (Zr lp G c k) (λR H n=>(rg R q0,rg R q2,rg R q12,rg R q13,rg R q14,H,n)) λih7=>(.s .n (.s .n (.j (λR=>Qh lp G c k ih7 (rg R q0) (rg R q2) (rg R q12) (rg R q13) (rg R q14)) (.b (.s .n (.s .n (.s .n (.b (.l _ (S9 lp G c k ih7) (λR H n=>(rg R q0,rg R q2,rg R q4,rg R q5,rg R q12,rg R q13,rg R q14,rg R q26,rg R q27,rg R q28,H,n)) λih22=>.n)))))) .n)))))) .n))
theorem jo{lp:Eo}(hL:Dj lp)(G:AX):Oc G 26 (MZ (Qq lp G)):=
 .mk X6 <| wo hL (an:=AAY lp G) (λ_ _=>obs (by kernel_rfl)) λc a0 H n k=>by kernel_rfl
def pz:Ta:=λlp G c k=>.n
theorem YL{lp:Eo}(hL:Dj lp)(G:AX):Oc G 28 (ar3 (Kr lp G)):=
 .mk Sz <| sf3 hL (an:=pz lp G) (λ_ _=>obs (by kernel_rfl)) λc a0 a1 a2 H n k=>by kernel_rfl
def AHy:Ta:=λlp G c k=>.n
theorem ABU{lp:Eo}(hL:Dj lp)(G:AX):Oc G 29 (ar0 (gQ lp G)):=
 .mk sJ <| sf0 hL (an:=AHy lp G) (λ_ _=>obs (by kernel_rfl)) λc H n k=>by kernel_rfl
def dh:Ta:=λlp G c k=>(.s .n (.s .n (.s .n (.s .n (.s .n (.j (λR=>KG lp G c k (rg R q0) (rg R q8) (rg R q12) (rg R q13) (rg R q15)) (.s .n (.b (.l _ (PY lp G c k) (λR H n=>(rg R q0,rg R q8,rg R q12,rg R q13,rg R q15,rg R q45,rg R q46,rg R q47,H,n)) λih51=>.n))) (.s .n (.j (λR=>Ee lp G c k (rg R q0) (rg R q8) (rg R q18)) .n .n))))))))
theorem Tf{lp:Eo}(hL:Dj lp)(G:AX):Oc G 30 (ar4 (Gj lp G)):=
 .mk NH <| sf4 hL (an:=dh lp G) (λ_ _=>obs (by kernel_rfl)) λc a0 a1 a2 a3 H n k=>by kernel_rfl
def AA8:Ta:=λlp G c k=>.n
theorem ABN{lp:Eo}(hL:Dj lp)(G:AX):Oc G 31 (TY (qp lp G)):=
 .mk ABs <| sf2 hL (an:=AA8 lp G) (λ_ _=>obs (by kernel_rfl)) λc a0 a1 H n k=>by kernel_rfl
def rV:Ta:=λlp G c k=>.n
theorem sO{lp:Eo}(hL:Dj lp)(G:AX):Oc G 32 (MZ (bK lp G)):=
 .mk rX <| wo hL (an:=rV lp G) (λ_ _=>obs (by kernel_rfl)) λc a0 H n k=>by kernel_rfl
def x9:Ta:=λlp G c k=>.n
theorem yI{lp:Eo}(hL:Dj lp)(G:AX):Oc G 33 (ar3 (jq lp G)):=
 .mk yC <| sf3 hL (an:=x9 lp G) (λ_ _=>obs (by kernel_rfl)) λc a0 a1 a2 H n k=>by kernel_rfl
def AAe:Ta:=λlp G c k=>.n
theorem jg{lp:Eo}(hL:Dj lp)(G:AX):Oc G 34 (MZ (Qy lp G)):=
 .mk YA <| wo hL (an:=AAe lp G) (λ_ _=>obs (by kernel_rfl)) λc a0 H n k=>by kernel_rfl
def AAb:Ta:=λlp G c k=>.n
theorem jY{lp:Eo}(hL:Dj lp)(G:AX):Oc G 35 (MZ (RN lp G)):=
 .mk X3 <| wo hL (an:=AAb lp G) (λ_ _=>obs (by kernel_rfl)) λc a0 H n k=>by kernel_rfl
def yM:Ta:=λlp G c k=>(.s .n (.s .n (.j (λR=>Nc lp G c k (rg R q1)) (.s .n (.b (.l _ (WM lp G c k) (λR H n=>(rg R q1,rg R q60,rg R q61,rg R q62,H,n)) λih127=>.n))) (.j (λR=>NZ lp G c k (rg R q1)) (.s .n (.b (.l _ (WL lp G c k) (λR H n=>(rg R q1,rg R q72,rg R q73,rg R q74,H,n)) λih112=>.n))) (.j (λR=>Ns lp G c k (rg R q1)) (.s .n (.b (.l _ (Xq lp G c k) (λR H n=>(rg R q1,rg R q85,rg R q86,rg R q87,H,n)) λih86=>.n))) (.j (λR=>Nr lp G c k (rg R q1)) (.s .n (.b (.l _ (XV lp G c k) (λR H n=>(rg R q1,rg R ATO,rg R AUo,rg R ATf,H,n)) λih64=>.n))) (.j (λR=>TQ lp G c k) (.s .n (.b (.l _ (XT lp G c k) (λR H n=>(rg R AWW,rg R AVx,rg R AV6,H,n)) λih49=>.n))) .n)))))))
theorem eu{lp:Eo}(hL:Dj lp)(G:AX):Oc G 37 (MZ (P8 lp G)):=
 .mk Wl <| wo hL (an:=yM lp G) (λ_ _=>obs (by kernel_rfl)) λc a0 H n k=>by kernel_rfl
def qN:Ta:=λlp G c k=>(.s .n (.s .n (.j (λR=>O0 lp G c k) (.s .n (.b (.l _ (Nw lp G c k) (λR H n=>(rg R q1,rg R q30,rg R q31,rg R q32,H,n)) λih24=>(.s .n (.s .n (.j (λR=>FI lp G c k ih24 (rg R q1) (rg R q30) (rg R q31) (rg R q32)) (.b (.s .n (.s .n (.s .n (.j (λR=>FC lp G c k ih24 (rg R q1) (rg R q4) (rg R q6) (rg R q30) (rg R q31) (rg R q32)) .n (.s .n (.s .n (.b (.l _ (OQ lp G c k ih24) (λR H n=>(rg R q1,rg R q4,rg R q30,rg R q31,rg R q32,rg R q83,rg R q84,rg R q85,H,n)) λih71=>.n))))))))) .n)))))) .n)))
theorem YV{lp:Eo}(hL:Dj lp)(G:AX):Oc G 38 (MZ (LK lp G)):=
 .mk TU <| wo hL (an:=qN lp G) (λ_ _=>obs (by kernel_rfl)) λc a0 H n k=>by kernel_rfl
def AG5:Ta:=λlp G c k=>(.s .n (.s .n (.j (λR=>dY lp G c k (rg R q3)) (.s .n (.b (.l _ (ni lp G c k) (λR H n=>(rg R q3,rg R q10,rg R q11,rg R q12,H,n)) λih7=>.n))) .n)))
theorem AAE{lp:Eo}(hL:Dj lp)(G:AX):Oc G 39 (MZ (ZE lp G)):=
 .mk lY <| wo hL (an:=AG5 lp G) (λ_ _=>obs (by kernel_rfl)) λc a0 H n k=>by kernel_rfl
def qI:Ta:=λlp G c k=>(.s .n (.s .n (.s .n (.s .n (.s .n (.s .n (.j (λR=>J6 lp G c k (rg R q0) (rg R q5)) (.s .n (.b (.l _ (OO lp G c k) (λR H n=>(rg R q0,rg R q5,rg R q67,rg R q68,rg R q69,H,n)) λih74=>.n))) (.j (λR=>Ox lp G c k) (.s .n (.b (.l _ (VB lp G c k) (λR H n=>(rg R q0,rg R q5,rg R q92,rg R q93,rg R q94,H,n)) λih37=>.n))) .n))))))))
theorem YT{lp:Eo}(hL:Dj lp)(G:AX):Oc G 40 (TY (KU lp G)):=
 .mk TL <| sf2 hL (an:=qI lp G) (λ_ _=>obs (by kernel_rfl)) λc a0 a1 H n k=>by kernel_rfl
def rM:Ta:=λlp G c k=>(.s .n (.j (λR=>Q7 lp G c k (rg R q0) (rg R q3)) (.s .n (.b (.l _ (VY lp G c k) (λR H n=>(rg R q0,rg R q3,rg R q17,rg R q18,rg R q19,H,n)) λih61=>.n))) (.s .n (.j (λR=>LP lp G c k (rg R q0) (rg R q3)) (.s .n (.b (.l _ (O9 lp G c k) (λR H n=>(rg R q0,rg R q3,rg R q42,rg R q43,rg R q44,H,n)) λih30=>.n))) (.j (λR=>QJ lp G c k) (.s .n (.b (.l _ (Vx lp G c k) (λR H n=>(rg R q0,rg R q73,rg R q74,rg R q75,H,n)) λih15=>.n))) .n)))))
theorem ZY{lp:Eo}(hL:Dj lp)(G:AX):Oc G 41 (TY (MN lp G)):=
 .mk UZ <| sf2 hL (an:=rM lp G) (λ_ _=>obs (by kernel_rfl)) λc a0 a1 H n k=>by kernel_rfl
def sV:Ta:=λlp G c k=>.n
theorem Zd{lp:Eo}(hL:Dj lp)(G:AX):Oc G 42 (TY (L9 lp G)):=
 .mk Us <| sf2 hL (an:=sV lp G) (λ_ _=>obs (by kernel_rfl)) λc a0 a1 H n k=>by kernel_rfl
def pO:Ta:=λlp G c k=>(.s .n (.s .n (.j (λR=>QX lp G c k (rg R q7)) (.s .n (.b (.l _ (V5 lp G c k) (λR H n=>(rg R q0,rg R q2,rg R q7,rg R q23,rg R q24,rg R q25,H,n)) λih9=>.n))) .n)))
theorem YU{lp:Eo}(hL:Dj lp)(G:AX):Oc G 43 (ar3 (Kv lp G)):=
 .mk TP <| sf3 hL (an:=pO lp G) (λ_ _=>obs (by kernel_rfl)) λc a0 a1 a2 H n k=>by kernel_rfl
def pJ:Ta:=λlp G c k=>(.s .n (.j (λR=>QM lp G c k (rg R q4)) (.s .n (.b (.l _ (VL lp G c k) (λR H n=>(rg R q1,rg R q4,rg R q9,rg R q10,rg R q11,H,n)) λih9=>.n))) .n))
theorem YW{lp:Eo}(hL:Dj lp)(G:AX):Oc G 44 (TY (Kt lp G)):=
 .mk TK <| sf2 hL (an:=pJ lp G) (λ_ _=>obs (by kernel_rfl)) λc a0 a1 H n k=>by kernel_rfl
def xu:Ta:=λlp G c k=>.n
theorem gV{lp:Eo}(hL:Dj lp)(G:AX):Oc G 45 (TY (Py lp G)):=
 .mk WT <| sf2 hL (an:=xu lp G) (λ_ _=>obs (by kernel_rfl)) λc a0 a1 H n k=>by kernel_rfl
def Vh:Ta:=λlp G c k=>.n
theorem MX{lp:Eo}(hL:Dj lp)(G:AX):Oc G 46 (TY (Dv lp G)):=
 .mk G9 <| sf2 hL (an:=Vh lp G) (λ_ _=>obs (by kernel_rfl)) λc a0 a1 H n k=>by kernel_rfl
def pW:Ta:=λlp G c k=>(.s .n (.j (λR=>QL lp G c k) (.s .n (.b (.l _ (Vs lp G c k) (λR H n=>(rg R q0,rg R q9,rg R q10,rg R q11,H,n)) λih3=>(.s .n (.s .n (.j (λR=>Ip lp G c k ih3 (rg R q0) (rg R q9) (rg R q10) (rg R q11)) .n .n)))))) .n))
theorem YN{lp:Eo}(hL:Dj lp)(G:AX):Oc G 47 (TY (KY lp G)):=
 .mk TS <| sf2 hL (an:=pW lp G) (λ_ _=>obs (by kernel_rfl)) λc a0 a1 H n k=>by kernel_rfl
def kV:Ta:=λlp G c k=>(.s .n (.s .n (.s .n (.j (λR=>GY lp G c k (rg R q0) (rg R q3) (rg R q4)) .n (.s .n (.s .n (.s .n (.j (λR=>NM lp G c k) (.b (.l _ (Lc lp G c k) (λR H n=>(rg R q0,H,n)) λih30=>.n)) .n))))))))
theorem WE{lp:Eo}(hL:Dj lp)(G:AX):Oc G 49 (MZ (JG lp G)):=
 .mk QY <| wo hL (an:=kV lp G) (λ_ _=>obs (by kernel_rfl)) λc a0 H n k=>by kernel_rfl
def AKj:Ta:=λlp G c k=>.n
theorem ADr{lp:Eo}(hL:Dj lp)(G:AX):Oc G 50 (MZ (lu lp G)):=
 .mk xk <| wo hL (an:=AKj lp G) (λ_ _=>obs (by kernel_rfl)) λc a0 H n k=>by kernel_rfl
def oH:Ta:=λlp G c k=>(.s .n (.s .n (.j (λR=>PK lp G c k (rg R q9)) (.s .n (.b (.l _ (VA lp G c k) (λR H n=>(rg R q0,rg R q2,rg R q3,rg R q9,rg R q25,rg R q26,rg R q27,H,n)) λih9=>.n))) .n)))
theorem Xj{lp:Eo}(hL:Dj lp)(G:AX):Oc G 53 (ar4 (Jm lp G)):=
 .mk RI <| sf4 hL (an:=oH lp G) (λ_ _=>obs (by kernel_rfl)) λc a0 a1 a2 a3 H n k=>by kernel_rfl
def aG:Ta:=λlp G c k=>(.s .n (.s .n (.j (λR=>QA lp G c k (rg R q6) (rg R q7)) (.s .n (.b (.l _ (Oh lp G c k) (λR H n=>(rg R q0,rg R q5,rg R q6,rg R q7,rg R q26,rg R q27,rg R q28,H,n)) λih16=>(.s .n (.s .n (.j (λR=>GU lp G c k ih16 (rg R q0) (rg R q5) (rg R q6) (rg R q7) (rg R q26) (rg R q27) (rg R q28)) (.b (.s .n (.s .n (.s .n (.s .n (.b (.l _ (Oe lp G c k ih16) (λR H n=>(rg R q0,rg R q5,rg R q6,rg R q7,rg R q13,rg R q26,rg R q27,rg R q28,rg R q42,rg R q43,rg R q44,H,n)) λih32=>.n))))))) .n)))))) .n)))
theorem SG{lp:Eo}(hL:Dj lp)(G:AX):Oc G 54 (ar3 (GI lp G)):=
 .mk Ld <| sf3 hL (an:=aG lp G) (λ_ _=>obs (by kernel_rfl)) λc a0 a1 a2 H n k=>by kernel_rfl
def aF:Ta:=λlp G c k=>(.s .n (.s .n (.j (λR=>DW lp G c k (rg R q3) (rg R q4) (rg R q5) (rg R q6) (rg R q8)) .n (.s .n (.j (λR=>JZ lp G c k (rg R q4) (rg R q5) (rg R q6) (rg R q8) (rg R q9)) (.s .n (.b (.l _ (OZ lp G c k) (λR H n=>(rg R q4,rg R q5,rg R q6,rg R q8,rg R q9,rg R q52,rg R q53,rg R q54,H,n)) λih223=>.n))) (.s .n (.s .n (.j (λR=>CZ lp G c k (rg R q4) (rg R q8)) (.b (.l _ (Fq lp G c k) (λR H n=>(rg R q4,rg R q5,rg R q6,rg R q8,rg R q9,rg R q12,rg R q13,H,n)) λih34=>(.s .n (.b (.s .n (.s .n (.s .n (.s .n (.s .n (.s .n (.s .n (.s .n (.b (.s .n (.c .n (.s .n (.c .n (.s .n (.c .n (.s .n (.c .n (.s .n (.c .n (.s .n (.c .n (.s .n (.c .n (.j (λR=>CW lp G c k ih34 (rg R q4) (rg R q5) (rg R q6) (rg R q8) (rg R q9) (rg R q12) (rg R q13) (rg R q14) (rg R q15) (rg R q16) (rg R AWi)) .n (.c (.s .n (.s .n (.j (λR=>D8 lp G c k ih34 (rg R q4) (rg R q5) (rg R q6) (rg R q8) (rg R q9) (rg R q12) (rg R q13) (rg R q14) (rg R q15) (rg R q16) (rg R q18) (rg R q19)) .n (.s .n (.j (λR=>Fj lp G c k ih34 (rg R q4) (rg R q5) (rg R q6) (rg R q8) (rg R q9) (rg R q12) (rg R q13) (rg R q14) (rg R q16) (rg R q18) (rg R q20)) (.s .n (.b (.l _ (OL lp G c k ih34) (λR H n=>(rg R q4,rg R q5,rg R q6,rg R q8,rg R q9,rg R q12,rg R q13,rg R q14,rg R q15,rg R q16,rg R q18,rg R q20,rg R q21,H,n)) λih206=>.n))) (.s .n (.s .n (.j (λR=>ED lp G c k ih34 (rg R q4) (rg R q5) (rg R q6) (rg R q8) (rg R q9) (rg R q12) (rg R q13) (rg R q16) (rg R q18) (rg R q20) (rg R q22)) .n .n)))))))) .n))))))))))))))))))))))))))))) .n))))))))
theorem SS{lp:Eo}(hL:Dj lp)(G:AX):Oc G 55 (ar4 (F8 lp G)):=
 .mk La <| sf4 hL (an:=aF lp G) (λ_ _=>obs (by kernel_rfl)) λc a0 a1 a2 a3 H n k=>by kernel_rfl
def yH:Ta:=λlp G c k=>.n
theorem fV{lp:Eo}(hL:Dj lp)(G:AX):Oc G 56 (MZ (Pq lp G)):=
 .mk Wh <| wo hL (an:=yH lp G) (λ_ _=>obs (by kernel_rfl)) λc a0 H n k=>by kernel_rfl
def yA:Ta:=λlp G c k=>(.s .n (.s .n (.j (λR=>TN lp G c k (rg R q1)) (.s .n (.b (.l _ (XP lp G c k) (λR H n=>(rg R q1,rg R q32,rg R q33,rg R q34,H,n)) λih66=>.n))) (.j (λR=>TI lp G c k) (.s .n (.b (.l _ (XI lp G c k) (λR H n=>(rg R q51,rg R q52,rg R q53,H,n)) λih26=>(.s .n (.s .n (.j (λR=>Sr lp G c k ih26 (rg R q51) (rg R q52) (rg R q53)) (.b (.s .n (.s .n (.s .n (.b (.l _ (XE lp G c k ih26) (λR H n=>(rg R q51,rg R q52,rg R q53,rg R q75,rg R q76,rg R q77,H,n)) λih52=>.n)))))) .n)))))) .n))))
theorem iF{lp:Eo}(hL:Dj lp)(G:AX):Oc G 57 (MZ (P6 lp G)):=
 .mk WQ <| wo hL (an:=yA lp G) (λ_ _=>obs (by kernel_rfl)) λc a0 H n k=>by kernel_rfl
def rU:Ta:=λlp G c k=>(.s .n (.s .n (.s .n (.j (λR=>Qb lp G c k (rg R q1)) (.s .n (.b (.l _ (J7 lp G c k) (λR H n=>(rg R q1,rg R q3,rg R q50,rg R q51,rg R q52,H,n)) λih77=>.n))) (.s .n (.j (λR=>Qc lp G c k) (.s .n (.b (.l _ (PL lp G c k) (λR H n=>(rg R q3,rg R q76,rg R q77,rg R q78,H,n)) λih43=>.n))) .n))))))
theorem Zi{lp:Eo}(hL:Dj lp)(G:AX):Oc G 58 (MZ (MP lp G)):=
 .mk Uk <| wo hL (an:=rU lp G) (λ_ _=>obs (by kernel_rfl)) λc a0 H n k=>by kernel_rfl
def qC:Ta:=λlp G c k=>(.s .n (.j (λR=>QW lp G c k (rg R q1)) (.s .n (.b (.l _ (N7 lp G c k) (λR H n=>(rg R q1,rg R q28,rg R q29,rg R q30,H,n)) λih97=>.n))) (.j (λR=>QH lp G c k (rg R q1)) (.s .n (.b (.l _ (N8 lp G c k) (λR H n=>(rg R q1,rg R q38,rg R q39,rg R q40,H,n)) λih73=>.n))) (.j (λR=>QO lp G c k (rg R q1)) (.s .n (.b (.l _ (OX lp G c k) (λR H n=>(rg R q1,rg R q49,rg R q50,rg R q51,H,n)) λih60=>.n))) (.j (λR=>QD lp G c k (rg R q1)) (.s .n (.b (.l _ (Nv lp G c k) (λR H n=>(rg R q1,rg R q60,rg R q61,rg R q62,H,n)) λih29=>.n))) (.j (λR=>QI lp G c k) (.s .n (.b (.l _ (Nu lp G c k) (λR H n=>(rg R q92,rg R q93,rg R q94,H,n)) λih10=>.n))) .n))))))
theorem YG{lp:Eo}(hL:Dj lp)(G:AX):Oc G 59 (MZ (Ku lp G)):=
 .mk Sl <| wo hL (an:=qC lp G) (λ_ _=>obs (by kernel_rfl)) λc a0 H n k=>by kernel_rfl
def uj:Ta:=λlp G c k=>.n
theorem bC{lp:Eo}(hL:Dj lp)(G:AX):Oc G 60 (TY (OM lp G)):=
 .mk Vm <| sf2 hL (an:=uj lp G) (λ_ _=>obs (by kernel_rfl)) λc a0 a1 H n k=>by kernel_rfl
def uQ:Ta:=λlp G c k=>.n
theorem Zl{lp:Eo}(hL:Dj lp)(G:AX):Oc G 61 (TY (MF lp G)):=
 .mk Ua <| sf2 hL (an:=uQ lp G) (λ_ _=>obs (by kernel_rfl)) λc a0 a1 H n k=>by kernel_rfl
def AC2:Ta:=λlp G c k=>(.s .n (.j (λR=>UN lp G c k (rg R q1)) (.s .n (.b (.l _ (aV lp G c k) (λR H n=>(rg R q1,rg R q7,rg R q8,H,n)) λih29=>.n))) (.j (λR=>X8 lp G c k) (.s .n (.b (.l _ (fC lp G c k) (λR H n=>(rg R q1,rg R q32,rg R q33,H,n)) λih7=>.n))) .n)))
theorem qh{lp:Eo}(hL:Dj lp)(G:AX):Oc G 62 (MZ (Vl lp G)):=
 .mk dw <| wo hL (an:=AC2 lp G) (λ_ _=>obs (by kernel_rfl)) λc a0 H n k=>by kernel_rfl
def sF:Ta:=λlp G c k=>(.s .n (.j (λR=>RZ lp G c k (rg R q4)) (.s .n (.b (.l _ (WI lp G c k) (λR H n=>(rg R q1,rg R q4,rg R q9,rg R q10,rg R q11,H,n)) λih9=>.n))) .n))
theorem Yx{lp:Eo}(hL:Dj lp)(G:AX):Oc G 63 (TY (Lu lp G)):=
 .mk Uo <| sf2 hL (an:=sF lp G) (λ_ _=>obs (by kernel_rfl)) λc a0 a1 H n k=>by kernel_rfl
def VD:Ta:=λlp G c k=>(.s .n (.s .n (.j (λR=>GL lp G c k) (.s .n (.b (.l _ (Jj lp G c k) (λR H n=>(rg R q0,rg R q1,rg R q12,rg R q13,H,n)) λih6=>.n))) .n)))
theorem LY{lp:Eo}(hL:Dj lp)(G:AX):Oc G 64 (TY (Dc lp G)):=
 .mk Gx <| sf2 hL (an:=VD lp G) (λ_ _=>obs (by kernel_rfl)) λc a0 a1 H n k=>by kernel_rfl
def XO:Ta:=λlp G c k=>(.s .n (.j (λR=>IK lp G c k) (.s .n (.b (.l _ (ML lp G c k) (λR H n=>(rg R q0,rg R q1,rg R q7,rg R q8,H,n)) λih3=>.n))) .n))
theorem Oi{lp:Eo}(hL:Dj lp)(G:AX):Oc G 65 (TY (EN lp G)):=
 .mk JI <| sf2 hL (an:=XO lp G) (λ_ _=>obs (by kernel_rfl)) λc a0 a1 H n k=>by kernel_rfl
def AEn:Ta:=λlp G c k=>.n
theorem wG{lp:Eo}(hL:Dj lp)(G:AX):Oc G 66 (MZ (XR lp G)):=
 .mk iR <| wo hL (an:=AEn lp G) (λ_ _=>obs (by kernel_rfl)) λc a0 H n k=>by kernel_rfl
def vG:Ta:=λlp G c k=>.n
theorem bD{lp:Eo}(hL:Dj lp)(G:AX):Oc G 67 (MZ (OG lp G)):=
 .mk Vr <| wo hL (an:=vG lp G) (λ_ _=>obs (by kernel_rfl)) λc a0 H n k=>by kernel_rfl
def jL:Ta:=λlp G c k=>(.s .n (.s .n (.s .n (.s .n (.s .n (.s .n (.j (λR=>IW lp G c k (rg R q0) (rg R q1) (rg R q5) (rg R q7) (rg R q9)) (.s .n (.b (.l _ (G5 lp G c k) (λR H n=>(rg R q0,rg R q1,rg R q5,rg R q7,rg R q9,rg R q63,rg R q64,rg R q65,H,n)) λih93=>.n))) (.j (λR=>FY lp G c k (rg R q0) (rg R q1) (rg R q9)) (.s .n (.b (.l _ (LD lp G c k) (λR H n=>(rg R q0,rg R q1,rg R q7,rg R q9,rg R ATO,rg R AUo,rg R ATf,H,n)) λih53=>.n))) (.j (λR=>IX lp G c k) .n .n)))))))))
theorem VO{lp:Eo}(hL:Dj lp)(G:AX):Oc G 70 (ar3 (Ia lp G)):=
 .mk PU <| sf3 hL (an:=jL lp G) (λ_ _=>obs (by kernel_rfl)) λc a0 a1 a2 H n k=>by kernel_rfl
def kY:Ta:=λlp G c k=>.n
theorem WC{lp:Eo}(hL:Dj lp)(G:AX):Oc G 71 (MZ (JH lp G)):=
 .mk QK <| wo hL (an:=kY lp G) (λ_ _=>obs (by kernel_rfl)) λc a0 H n k=>by kernel_rfl
def jJ:Ta:=λlp G c k=>(.s .n (.s .n (.s (.s .n (.b (.s .n (.c .n (.s .n (.c .n (.s .n (.c .n (.s .n (.c .n (.s .n (.c .n (.j (λR=>Bj lp G c k (rg R q0) (rg R q1) (rg R q5) (rg R q7) (rg R q8) (rg R q20) (rg R q80)) .n (.c .n (.j (λR=>DT lp G c k (rg R q0) (rg R q1) (rg R q5) (rg R q7) (rg R q8) (rg R q20) (rg R q98)) .n (.c .n (.s .n (.c .n (.s .n (.c .n (.j (λR=>DV lp G c k (rg R q0) (rg R q1) (rg R q5) (rg R q7) (rg R q8) (rg R q20) (rg R AVa)) .n .n))))))))))))))))))))) .n)))
theorem VZ{lp:Eo}(hL:Dj lp)(G:AX):Oc G 72 (ar3 (Il lp G)):=
 .mk O7 <| sf3 hL (an:=jJ lp G) (λ_ _=>obs (by kernel_rfl)) λc a0 a1 a2 H n k=>by kernel_rfl
def fK:Ta:=λlp G c k=>.n
theorem Ux{lp:Eo}(hL:Dj lp)(G:AX):Oc G 73 (ar3 (Hq lp G)):=
 .mk Nz <| sf3 hL (an:=fK lp G) (λ_ _=>obs (by kernel_rfl)) λc a0 a1 a2 H n k=>by kernel_rfl
def ru:Ta:=λlp G c k=>.n
theorem Zv{lp:Eo}(hL:Dj lp)(G:AX):Oc G 77 (ar3 (MW lp G)):=
 .mk Um <| sf3 hL (an:=ru lp G) (λ_ _=>obs (by kernel_rfl)) λc a0 a1 a2 H n k=>by kernel_rfl
def AHS:Ta:=λlp G c k=>.n
theorem zl{lp:Eo}(hL:Dj lp)(G:AX):Oc G 79 (ar0 (ZB lp G)):=
 .mk lg <| sf0 hL (an:=AHS lp G) (λ_ _=>obs (by kernel_rfl)) λc H n k=>by kernel_rfl
def AA6:Ta:=λlp G c k=>.n
theorem lH{lp:Eo}(hL:Dj lp)(G:AX):Oc G 81 (ar0 (Tt lp G)):=
 .mk Yz <| sf0 hL (an:=AA6 lp G) (λ_ _=>obs (by kernel_rfl)) λc H n k=>by kernel_rfl
def tY:Ta:=λlp G c k=>.n
theorem ZI{lp:Eo}(hL:Dj lp)(G:AX):Oc G 82 (MZ (Lp lp G)):=
 .mk Uh <| wo hL (an:=tY lp G) (λ_ _=>obs (by kernel_rfl)) λc a0 H n k=>by kernel_rfl
def yO:Ta:=λlp G c k=>.n
theorem gK{lp:Eo}(hL:Dj lp)(G:AX):Oc G 83 (MZ (Po lp G)):=
 .mk WS <| wo hL (an:=yO lp G) (λ_ _=>obs (by kernel_rfl)) λc a0 H n k=>by kernel_rfl
def aJ:Ta:=λlp G c k=>(.s .n (.j (λR=>Qd lp G c k (rg R q4)) (.s .n (.b (.l _ (Pg lp G c k) (λR H n=>(rg R q1,rg R q4,rg R q11,rg R q12,rg R q13,H,n)) λih9=>.n))) .n))
theorem SE{lp:Eo}(hL:Dj lp)(G:AX):Oc G 84 (TY (F9 lp G)):=
 .mk Le <| sf2 hL (an:=aJ lp G) (λ_ _=>obs (by kernel_rfl)) λc a0 a1 H n k=>by kernel_rfl
def dN:Ta:=λlp G c k=>(.s .n (.j (λR=>E5 lp G c k (rg R q4)) .n .n))
theorem UE{lp:Eo}(hL:Dj lp)(G:AX):Oc G 85 (TY (Gi lp G)):=
 .mk NJ <| sf2 hL (an:=dN lp G) (λ_ _=>obs (by kernel_rfl)) λc a0 a1 H n k=>by kernel_rfl
def Y3:Ta:=λlp G c k=>.n
theorem ZV{lp:Eo}(hL:Dj lp)(G:AX):Oc G 86 (MZ (Sj lp G)):=
 .mk ZJ <| wo hL (an:=Y3 lp G) (λ_ _=>obs (by kernel_rfl)) λc a0 H n k=>by kernel_rfl
def Yd:Ta:=λlp G c k=>.n
theorem Qi{lp:Eo}(hL:Dj lp)(G:AX):Oc G 87 (TY (Ew lp G)):=
 .mk J8 <| sf2 hL (an:=Yd lp G) (λ_ _=>obs (by kernel_rfl)) λc a0 a1 H n k=>by kernel_rfl
def Yj:Ta:=λlp G c k=>.n
theorem Qm{lp:Eo}(hL:Dj lp)(G:AX):Oc G 88 (ar4 (Ey lp G)):=
 .mk J9 <| sf4 hL (an:=Yj lp G) (λ_ _=>obs (by kernel_rfl)) λc a0 a1 a2 a3 H n k=>by kernel_rfl
def Zc:Ta:=λlp G c k=>(.s .n (.s .n (.b (.s .n (.c .n (.s .n (.c .n (.s .n (.c .n (.s .n (.c .n (.s .n (.c .n (.s .n (.c (.s .n (.s .n (.j (λR=>EG lp G c k (rg R q0) (rg R q4) (rg R q6) (rg R q7) (rg R q10)) (.s .n (.b (.l _ (FH lp G c k) (λR H n=>(rg R q0,rg R q4,rg R q6,rg R q7,rg R q10,rg R AQq,rg R ASe,rg R ARP,H,n)) λih69=>(.s .n (.s .n (.j (λR=>JM lp G c k ih69 (rg R q0) (rg R q4) (rg R q6) (rg R q7) (rg R q10) (rg R AQq) (rg R ASe) (rg R ARP)) (.b (.s .n (.s .n (.s .n (.b (.l _ (OY lp G c k ih69) (λR H n=>(rg R q0,rg R q4,rg R q6,rg R q7,rg R q10,rg R AQq,rg R ASe,rg R ARP,rg R AWE,rg R AWJ,rg R AVV,H,n)) λih86=>.n)))))) .n)))))) .n))) (.s .n (.c .n (.j (λR=>CO lp G c k (rg R q0) (rg R q3) (rg R q4) (rg R q6) (rg R q7) (rg R q27) (rg R AWT)) .n (.c .n (.j (λR=>BI lp G c k (rg R q0) (rg R q3) (rg R q4) (rg R q6) (rg R q7) (rg R AWN)) .n .n))))))))))))))))))))
theorem Qv{lp:Eo}(hL:Dj lp)(G:AX):Oc G 89 (ar5 (FT lp G)):=
 .mk KT <| sf5 hL (an:=Zc lp G) (λ_ _=>obs (by kernel_rfl)) λc a0 a1 a2 a3 a4 H n k=>by kernel_rfl
def QU:Ta:=λlp G c k=>.n
theorem Ik{lp:Eo}(hL:Dj lp)(G:AX):Oc G 90 (TY (CP lp G)):=
 .mk EX <| sf2 hL (an:=QU lp G) (λ_ _=>obs (by kernel_rfl)) λc a0 a1 H n k=>by kernel_rfl
def mY:Ta:=λlp G c k=>.n
theorem XF{lp:Eo}(hL:Dj lp)(G:AX):Oc G 91 (MZ (Jo lp G)):=
 .mk Qz <| wo hL (an:=mY lp G) (λ_ _=>obs (by kernel_rfl)) λc a0 H n k=>by kernel_rfl
def ABr:Ta:=λlp G c k=>.n
theorem lD{lp:Eo}(hL:Dj lp)(G:AX):Oc G 92 (MZ (UK lp G)):=
 .mk Zu <| wo hL (an:=ABr lp G) (λ_ _=>obs (by kernel_rfl)) λc a0 H n k=>by kernel_rfl
def AEX:Ta:=λlp G c k=>.n
theorem wC{lp:Eo}(hL:Dj lp)(G:AX):Oc G 93 (MZ (XK lp G)):=
 .mk jQ <| wo hL (an:=AEX lp G) (λ_ _=>obs (by kernel_rfl)) λc a0 H n k=>by kernel_rfl
def mW:Ta:=λlp G c k=>.n
theorem Xl{lp:Eo}(hL:Dj lp)(G:AX):Oc G 94 (ar3 (Jt lp G)):=
 .mk Qw <| sf3 hL (an:=mW lp G) (λ_ _=>obs (by kernel_rfl)) λc a0 a1 a2 H n k=>by kernel_rfl
def ACW:Ta:=λlp G c k=>(.s .n (.j (λR=>Oa lp G c k (rg R q6)) .n .n))
theorem nU{lp:Eo}(hL:Dj lp)(G:AX):Oc G 95 (ar3 (Tc lp G)):=
 .mk ZO <| sf3 hL (an:=ACW lp G) (λ_ _=>obs (by kernel_rfl)) λc a0 a1 a2 H n k=>by kernel_rfl
def VE:Ta:=λlp G c k=>.n
theorem LX{lp:Eo}(hL:Dj lp)(G:AX):Oc G 96 (MZ (DZ lp G)):=
 .mk Gv <| wo hL (an:=VE lp G) (λ_ _=>obs (by kernel_rfl)) λc a0 H n k=>by kernel_rfl
def iU:Ta:=λlp G c k=>.n
theorem Vq{lp:Eo}(hL:Dj lp)(G:AX):Oc G 97 (ar3 (Ic lp G)):=
 .mk O8 <| sf3 hL (an:=iU lp G) (λ_ _=>obs (by kernel_rfl)) λc a0 a1 a2 H n k=>by kernel_rfl
def nC:Ta:=λlp G c k=>.n
theorem XZ{lp:Eo}(hL:Dj lp)(G:AX):Oc G 98 (MZ (Jh lp G)):=
 .mk RU <| wo hL (an:=nC lp G) (λ_ _=>obs (by kernel_rfl)) λc a0 H n k=>by kernel_rfl
def kK:Ta:=λlp G c k=>(.s .n (.j (λR=>OC lp G c k) (.s .n (.b (.l _ (UF lp G c k) (λR H n=>(rg R q0,rg R q1,rg R q2,rg R q7,H,n)) λih4=>.n))) .n))
theorem V9{lp:Eo}(hL:Dj lp)(G:AX):Oc G 99 (ar3 (JC lp G)):=
 .mk QZ <| sf3 hL (an:=kK lp G) (λ_ _=>obs (by kernel_rfl)) λc a0 a1 a2 H n k=>by kernel_rfl
def dK:Ta:=λlp G c k=>(.s .n (.s (.s .n (.b (.s .n (.c .n (.s .n (.c .n (.j (λR=>Dl lp G c k (rg R q0) (rg R q1) (rg R q5) (rg R q14) (rg R q66)) .n (.c (.s .n (.s .n (.j (λR=>DF lp G c k (rg R q0) (rg R q1) (rg R q7) (rg R q8) (rg R q9)) .n .n))) (.s .n (.c .n (.s .n (.c .n (.j (λR=>DX lp G c k (rg R q0) (rg R q1) (rg R q5) (rg R AWS)) .n .n))))))))))))) .n))
theorem Td{lp:Eo}(hL:Dj lp)(G:AX):Oc G 100 (ar3 (GZ lp G)):=
 .mk NC <| sf3 hL (an:=dK lp G) (λ_ _=>obs (by kernel_rfl)) λc a0 a1 a2 H n k=>by kernel_rfl
def qQ:Ta:=λlp G c k=>.n
theorem YO{lp:Eo}(hL:Dj lp)(G:AX):Oc G 103 (ar3 (Ko lp G)):=
 .mk TF <| sf3 hL (an:=qQ lp G) (λ_ _=>obs (by kernel_rfl)) λc a0 a1 a2 H n k=>by kernel_rfl
def yQ:Ta:=λlp G c k=>.n
theorem fU{lp:Eo}(hL:Dj lp)(G:AX):Oc G 104 (MZ (QB lp G)):=
 .mk Wp <| wo hL (an:=yQ lp G) (λ_ _=>obs (by kernel_rfl)) λc a0 H n k=>by kernel_rfl
def Zp:Ta:=λlp G c k=>.n
theorem Q9{lp:Eo}(hL:Dj lp)(G:AX):Oc G 105 (ar4 (Fb lp G)):=
 .mk Ky <| sf4 hL (an:=Zp lp G) (λ_ _=>obs (by kernel_rfl)) λc a0 a1 a2 a3 H n k=>by kernel_rfl
def Ze:Ta:=λlp G c k=>(.s .n (.s .n (.s .n (.j (λR=>Au lp G c k (rg R q0) (rg R q3) (rg R q4) (rg R q6) (rg R q7) (rg R q10) (rg R q11)) .n (.j (λR=>BX lp G c k (rg R q0) (rg R q3) (rg R q4) (rg R q6) (rg R q7) (rg R q10) (rg R q11)) .n (.s .n (.s .n (.s .n (.s .n (.j (λR=>EC lp G c k (rg R q0) (rg R q4) (rg R q7) (rg R q10) (rg R q11) (rg R q13)) (.s .n (.b (.s .n (.c .n (.j (λR=>DR lp G c k (rg R q0) (rg R q4) (rg R q6) (rg R q7) (rg R q10) (rg R q11) (rg R q12) (rg R q13) (rg R q69)) .n .n))))) .n))))))))))
theorem RV{lp:Eo}(hL:Dj lp)(G:AX):Oc G 106 (ar5 (FW lp G)):=
 .mk KR <| sf5 hL (an:=Ze lp G) (λ_ _=>obs (by kernel_rfl)) λc a0 a1 a2 a3 a4 H n k=>by kernel_rfl
def dA:Ta:=λlp G c k=>(.s .n (.s .n (.b (.s .n (.c .n (.s .n (.c .n (.s .n (.c .n (.j (λR=>Ed lp G c k (rg R q0) (rg R q1) (rg R q4) (rg R q7) (rg R q8) (rg R q11) (rg R q44)) .n (.c (.s .n (.s .n (.j (λR=>Ec lp G c k (rg R q4) (rg R q10)) .n .n))) (.s .n (.c .n (.s .n (.c .n (.j (λR=>Ef lp G c k (rg R q0) (rg R q4) (rg R q7) (rg R q8) (rg R q90)) .n .n))))))))))))))))
theorem Tj{lp:Eo}(hL:Dj lp)(G:AX):Oc G 107 (ar5 (Gh lp G)):=
 .mk ND <| sf5 hL (an:=dA lp G) (λ_ _=>obs (by kernel_rfl)) λc a0 a1 a2 a3 a4 H n k=>by kernel_rfl
def SC:Ta:=λlp G c k=>(.s .n (.j (λR=>Et lp G c k) (.s .n (.b (.l _ (Io lp G c k) (λR H n=>(rg R q0,rg R q1,rg R q7,rg R q8,H,n)) λih3=>.n))) .n))
theorem JU{lp:Eo}(hL:Dj lp)(G:AX):Oc G 108 (TY (Ci lp G)):=
 .mk FM <| sf2 hL (an:=SC lp G) (λ_ _=>obs (by kernel_rfl)) λc a0 a1 H n k=>by kernel_rfl
def mD:Ta:=λlp G c k=>(.s .n (.s .n (.j (λR=>Ov lp G c k) (.s .n (.b (.l _ (U1 lp G c k) (λR H n=>(rg R q0,rg R q2,rg R q17,rg R q18,rg R q19,H,n)) λih6=>.n))) .n)))
theorem Xm{lp:Eo}(hL:Dj lp)(G:AX):Oc G 109 (ar3 (Jg lp G)):=
 .mk RD <| sf3 hL (an:=mD lp G) (λ_ _=>obs (by kernel_rfl)) λc a0 a1 a2 H n k=>by kernel_rfl
def fA:Ta:=λlp G c k=>.n
theorem U7{lp:Eo}(hL:Dj lp)(G:AX):Oc G 110 (ar3 (G8 lp G)):=
 .mk OB <| sf3 hL (an:=fA lp G) (λ_ _=>obs (by kernel_rfl)) λc a0 a1 a2 H n k=>by kernel_rfl
def ZQ:Ta:=λlp G c k=>(.s .n (.j (λR=>Pz lp G c k (rg R q0)) (.s .n (.b (.l _ (OD lp G c k) (λR H n=>(rg R q0,rg R q2,rg R q19,rg R q20,rg R q21,H,n)) λih16=>.n))) .n))
theorem RY{lp:Eo}(hL:Dj lp)(G:AX):Oc G 111 (ar3 (FV lp G)):=
 .mk KO <| sf3 hL (an:=ZQ lp G) (λ_ _=>obs (by kernel_rfl)) λc a0 a1 a2 H n k=>by kernel_rfl
def FS(lp:Eo)(G:AX):T SF:=(.n none (.n none (.n none (.n (some (ar6 (Gg lp G))) (.n none (.n (some (TY (qp lp G))) (.n (some (TY (Lu lp G))) .e .e) (.n (some (ar3 (Tc lp G))) .e .e)) (.n (some (TY (KY lp G))) (.n (some (ar0 (ZB lp G))) .e .e) (.n (some (ar3 (FV lp G))) .e .e))) (.n none (.n (some (MZ (ZE lp G))) (.n (some (MZ (JH lp G))) .e .e) (.n (some (ar3 (Ko lp G))) .e .e)) (.n (some (ar4 (F8 lp G))) (.n (some (TY (Ew lp G))) .e .e) .e))) (.n none (.n (some (TY (KQ lp G))) (.n (some (MZ (RN lp G))) (.n (some (MZ (OG lp G))) .e .e) (.n (some (ar3 (JC lp G))) .e .e)) (.n none (.n (some (MZ (Po lp G))) .e .e) .e)) (.n none (.n (some (ar3 (Kv lp G))) .e (.n (some (ar5 (Gh lp G))) .e .e)) (.n (some (MZ (Ku lp G))) (.n (some (MZ (Jo lp G))) .e .e) .e)))) (.n none (.n none (.n (some (TY (MG lp G))) (.n (some (ar3 (jq lp G))) (.n (some (TY (EN lp G))) .e .e) (.n (some (ar3 (Ic lp G))) .e .e)) (.n (some (MZ (JG lp G))) (.n (some (ar0 (Tt lp G))) .e .e) .e)) (.n (some (ar0 (gZ lp G))) (.n (some (TY (MN lp G))) (.n (some (ar3 (Hq lp G))) .e .e) (.n (some (ar4 (Fb lp G))) .e .e)) (.n (some (MZ (P6 lp G))) (.n (some (ar5 (FT lp G))) .e .e) .e))) (.n (some (MZ (Pj lp G))) (.n (some (TY (Ll lp G))) (.n (some (MZ (P8 lp G))) .e .e) (.n (some (ar4 (Jm lp G))) (.n (some (TY (Gi lp G))) .e .e) .e)) (.n (some (ar0 (gQ lp G))) (.n (some (TY (Py lp G))) (.n (some (ar3 (MW lp G))) .e .e) (.n (some (ar3 (Jg lp G))) .e .e)) (.n (some (TY (MF lp G))) (.n (some (MZ (XK lp G))) .e .e) .e))))) (.n none (.n none (.n none (.n none (.n (some (MZ (bK lp G))) (.n (some (TY (Dc lp G))) .e .e) (.n (some (MZ (DZ lp G))) .e .e)) .e) (.n none (.n (some (TY (KU lp G))) (.n (some (ar3 (Il lp G))) .e .e) (.n (some (MZ (QB lp G))) .e .e)) (.n (some (MZ (Pq lp G))) (.n (some (ar4 (Ey lp G))) .e .e) .e))) (.n none (.n none (.n none .e (.n (some (ar3 (GZ lp G))) .e .e)) (.n none (.n (some (TY (F9 lp G))) .e .e) .e)) (.n (some (ar3 (Kr lp G))) (.n (some (TY (Kt lp G))) .e (.n (some (TY (Ci lp G))) .e .e)) (.n (some (TY (OM lp G))) (.n (some (MZ (UK lp G))) .e .e) .e)))) (.n none (.n none (.n (some (MZ (KW lp G))) (.n (some (MZ (Qy lp G))) (.n (some (MZ (XR lp G))) .e .e) (.n (some (MZ (Jh lp G))) .e .e)) (.n (some (MZ (lu lp G))) (.n (some (MZ (Lp lp G))) .e .e) .e)) (.n (some (MZ (Qq lp G))) (.n (some (TY (L9 lp G))) .e (.n (some (ar5 (FW lp G))) .e .e)) (.n (some (MZ (MP lp G))) (.n (some (TY (CP lp G))) .e .e) .e))) (.n (some (MZ (Xc lp G))) (.n none (.n (some (MZ (LK lp G))) (.n (some (ar3 (Ia lp G))) .e .e) .e) (.n (some (ar3 (GI lp G))) (.n (some (MZ (Sj lp G))) .e .e) .e)) (.n (some (ar4 (Gj lp G))) (.n (some (TY (Dv lp G))) .e (.n (some (ar3 (G8 lp G))) .e .e)) (.n (some (MZ (Vl lp G))) (.n (some (ar3 (Jt lp G))) .e .e) .e))))))
theorem ASk{lp:Eo}(hL:Dj lp)(G:AX):T.All (λp s=>Oc G p.key s) (FS lp G):=(.n0 (.n0 (.n0 (.n1 (Tv hL G) (.n0 (.n1 (ABN hL G) (.n1 (Yx hL G) .e .e) (.n1 (nU hL G) .e .e)) (.n1 (YN hL G) (.n1 (zl hL G) .e .e) (.n1 (RY hL G) .e .e))) (.n0 (.n1 (AAE hL G) (.n1 (WC hL G) .e .e) (.n1 (YO hL G) .e .e)) (.n1 (SS hL G) (.n1 (Qi hL G) .e .e) .e))) (.n0 (.n1 (YZ hL G) (.n1 (jY hL G) (.n1 (bD hL G) .e .e) (.n1 (V9 hL G) .e .e)) (.n0 (.n1 (gK hL G) .e .e) .e)) (.n0 (.n1 (YU hL G) .e (.n1 (Tj hL G) .e .e)) (.n1 (YG hL G) (.n1 (XF hL G) .e .e) .e)))) (.n0 (.n0 (.n1 (Y1 hL G) (.n1 (yI hL G) (.n1 (Oi hL G) .e .e) (.n1 (Vq hL G) .e .e)) (.n1 (WE hL G) (.n1 (lH hL G) .e .e) .e)) (.n1 (vP hL G) (.n1 (ZY hL G) (.n1 (Ux hL G) .e .e) (.n1 (Q9 hL G) .e .e)) (.n1 (iF hL G) (.n1 (Qv hL G) .e .e) .e))) (.n1 (iG hL G) (.n1 (ZA hL G) (.n1 (eu hL G) .e .e) (.n1 (Xj hL G) (.n1 (UE hL G) .e .e) .e)) (.n1 (ABU hL G) (.n1 (gV hL G) (.n1 (Zv hL G) .e .e) (.n1 (Xm hL G) .e .e)) (.n1 (Zl hL G) (.n1 (wC hL G) .e .e) .e))))) (.n0 (.n0 (.n0 (.n0 (.n1 (sO hL G) (.n1 (LY hL G) .e .e) (.n1 (LX hL G) .e .e)) .e) (.n0 (.n1 (YT hL G) (.n1 (VZ hL G) .e .e) (.n1 (fU hL G) .e .e)) (.n1 (fV hL G) (.n1 (Qm hL G) .e .e) .e))) (.n0 (.n0 (.n0 .e (.n1 (Td hL G) .e .e)) (.n0 (.n1 (SE hL G) .e .e) .e)) (.n1 (YL hL G) (.n1 (YW hL G) .e (.n1 (JU hL G) .e .e)) (.n1 (bC hL G) (.n1 (lD hL G) .e .e) .e)))) (.n0 (.n0 (.n1 (YX hL G) (.n1 (jg hL G) (.n1 (wG hL G) .e .e) (.n1 (XZ hL G) .e .e)) (.n1 (ADr hL G) (.n1 (ZI hL G) .e .e) .e)) (.n1 (jo hL G) (.n1 (Zd hL G) .e (.n1 (RV hL G) .e .e)) (.n1 (Zi hL G) (.n1 (Ik hL G) .e .e) .e))) (.n1 (uo hL G) (.n0 (.n1 (YV hL G) (.n1 (VO hL G) .e .e) .e) (.n1 (SG hL G) (.n1 (ZV hL G) .e .e) .e)) (.n1 (Tf hL G) (.n1 (MX hL G) .e (.n1 (U7 hL G) .e .e)) (.n1 (qh hL G) (.n1 (Xl hL G) .e .e) .e))))))
theorem AUE{lp:Eo}(hL:Dj lp)(G:AX):ATL F G (FS lp G):=λf s h=>by
 have:=T.All.D6 (p:=PX f) (ASk hL G) h
 rw[AAf]at this
 obtain⟨h,o⟩:=this
 exact⟨_,h,o⟩
end Go.RL
