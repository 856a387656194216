/- Part of a proof; nothing is assumed. -/
import Derived.Test.YtmbhlmocojopaaaGreatDoorPlain
import Derived.Test.YtmbhlmocojopaaaGreatDoorCode
import Derived.Test.YtmbhlmocojopaaaGreatDoorEngE
set_option linter.unusedVariables false
set_option linter.unusedSimpArgs false
noncomputable section
namespace Go.RL
open Go.DW
set_option maxRecDepth 100000
abbrev Ta:=He->AX->BG->KV->An
inductive O1(G:AX)(n:Nat)(s:SF):Prop where
 |mk {af:AF} (h:T.get F n=some af) (o:AHn G af s):O1 G n s
def nZ:Ta:=λlp G c k=>(.s .n (.s .n (.s .n (.s .n (.s .n (.s .n (.j (λR=>N9 lp G c k) (.s .n (.b (.l _ (MZ lp G c k) (λR H n=>(rg R q6,rg R q7,rg R q43,rg R q44,rg R q45,H,n)) λih26=>.n))) .n)))))))
theorem o9{lp:He}(hL:Eb lp)(G:AX):O1 G 5 (N8 (NR lp G)):=
 .mk Qm <| mJ hL (an:=nZ lp G) (λ_ _=>obs (by kernel_rfl)) λc a0 a1 H n k=>by kernel_rfl
def su:Ta:=λlp G c k=>(.s .n (.s .n (.s .n (.s .n (.s .n (.s .n (.s .n (.j (λR=>Ik lp G c k (rg R q3) (rg R q4) (rg R q5)) .n (.j (λR=>Ig lp G c k (rg R q3) (rg R q4) (rg R q5)) .n .n)))))))))
theorem vH{lp:He}(hL:Eb lp)(G:AX):O1 G 14 (mM (PO lp G)):=
 .mk UC <| sf1 hL (an:=su lp G) (λ_ _=>obs (by kernel_rfl)) λc a0 H n k=>by kernel_rfl
def AAW:Ta:=λlp G c k=>(.s .n (.s .n (.j (λR=>TY lp G c k (rg R q3)) (.s .n (.b (.l _ (YP lp G c k) (λR H n=>(rg R q3,rg R q7,rg R q8,rg R q9,H,n)) λih5=>.n))) .n)))
theorem AAI{lp:He}(hL:Eb lp)(G:AX):O1 G 16 (mM (Sr lp G)):=
 .mk V5 <| sf1 hL (an:=AAW lp G) (λ_ _=>obs (by kernel_rfl)) λc a0 H n k=>by kernel_rfl
def ABH:Ta:=λlp G c k=>.n
theorem ABb{lp:He}(hL:Eb lp)(G:AX):O1 G 17 (N8 (Um lp G)):=
 .mk XP <| mJ hL (an:=ABH lp G) (λ_ _=>obs (by kernel_rfl)) λc a0 a1 H n k=>by kernel_rfl
def sQ:Ta:=λlp G c k=>(.s .n (.s .n (.j (λR=>Oo lp G c k) (.s .n (.b (.l _ (U0 lp G c k) (λR H n=>(rg R q26,rg R q27,rg R q28,H,n)) λih24=>.n))) .n)))
theorem rF{lp:He}(hL:Eb lp)(G:AX):O1 G 19 (mM (OI lp G)):=
 .mk SC <| sf1 hL (an:=sQ lp G) (λ_ _=>obs (by kernel_rfl)) λc a0 H n k=>by kernel_rfl
def AE1:Ta:=λlp G c k=>(.s .n (.s .n (.s .n (.s .n (.s .n (.s .n (.j (λR=>Xq lp G c k (rg R q3) (rg R q4) (rg R q5) (rg R q9)) (.s .n (.b (.l _ (dQ lp G c k) (λR H n=>(rg R q3,rg R q4,rg R q5,rg R q9,rg R q52,rg R q53,rg R q54,H,n)) λih61=>.n))) .n)))))))
theorem AE2{lp:He}(hL:Eb lp)(G:AX):O1 G 20 (N8 (Y4 lp G)):=
 .mk bY <| mJ hL (an:=AE1 lp G) (λ_ _=>obs (by kernel_rfl)) λc a0 a1 H n k=>by kernel_rfl
def AKb:Ta:=λlp G c k=>.n
theorem ALb{lp:He}(hL:Eb lp)(G:AX):O1 G 30 (ar0 (wS lp G)):=
 .mk zQ <| sf0 hL (an:=AKb lp G) (λ_ _=>obs (by kernel_rfl)) λc H n k=>by kernel_rfl
def AIz:Ta:=λlp G c k=>(.s .n (.s .n (.j (λR=>jB lp G c k (rg R q3)) (.s .n (.b (.l _ (uG lp G c k) (λR H n=>(rg R q3,rg R q10,rg R q11,rg R q12,H,n)) λih7=>.n))) .n)))
theorem AJp{lp:He}(hL:Eb lp)(G:AX):O1 G 36 (mM (oZ lp G)):=
 .mk tY <| sf1 hL (an:=AIz lp G) (λ_ _=>obs (by kernel_rfl)) λc a0 H n k=>by kernel_rfl
def xI:Ta:=λlp G c k=>(.s .n (.s .n (.s .n (.s .n (.s .n (.s .n (.j (λR=>MQ lp G c k (rg R q0) (rg R q5)) (.s .n (.b (.l _ (P7 lp G c k) (λR H n=>(rg R q0,rg R q5,rg R q67,rg R q68,rg R q69,H,n)) λih74=>.n))) (.j (λR=>QX lp G c k) (.s .n (.b (.l _ (WQ lp G c k) (λR H n=>(rg R q0,rg R q5,rg R q92,rg R q93,rg R q94,H,n)) λih37=>.n))) .n))))))))
theorem xQ{lp:He}(hL:Eb lp)(G:AX):O1 G 37 (N8 (Qg lp G)):=
 .mk VF <| mJ hL (an:=xI lp G) (λ_ _=>obs (by kernel_rfl)) λc a0 a1 H n k=>by kernel_rfl
def AOD:Ta:=λlp G c k=>.n
theorem ANk{lp:He}(hL:Eb lp)(G:AX):O1 G 40 (mM (ABn lp G)):=
 .mk ACY <| sf1 hL (an:=AOD lp G) (λ_ _=>obs (by kernel_rfl)) λc a0 H n k=>by kernel_rfl
def AA9:Ta:=λlp G c k=>.n
theorem AAz{lp:He}(hL:Eb lp)(G:AX):O1 G 41 (ar0 (Ur lp G)):=
 .mk Xy <| sf0 hL (an:=AA9 lp G) (λ_ _=>obs (by kernel_rfl)) λc H n k=>by kernel_rfl
def eY:Ta:=λlp G c k=>(.s .n (.s .n (.s .n (.j (λR=>Fh lp G c k (rg R q0) (rg R q5) (rg R q10) (rg R q12) (rg R q13)) .n (.s .n (.j (λR=>IU lp G c k (rg R q0) (rg R q10) (rg R q12) (rg R q13)) (.s .n (.b (.l _ (QD lp G c k) (λR H n=>(rg R q0,rg R q10,rg R q12,rg R q13,rg R q32,rg R q33,rg R q34,H,n)) λih33=>.n))) .n))))))
theorem fE{lp:He}(hL:Eb lp)(G:AX):O1 G 42 (ar6 (Jz lp G)):=
 .mk OA <| sf6 hL (an:=eY lp G) (λ_ _=>obs (by kernel_rfl)) λc a0 a1 a2 a3 a4 a5 H n k=>by kernel_rfl
def AJ1:Ta:=λlp G c k=>.n
theorem AJz{lp:He}(hL:Eb lp)(G:AX):O1 G 43 (ar0 (pJ lp G)):=
 .mk tH <| sf0 hL (an:=AJ1 lp G) (λ_ _=>obs (by kernel_rfl)) λc H n k=>by kernel_rfl
def kQ:Ta:=λlp G c k=>.n
theorem kC{lp:He}(hL:Eb lp)(G:AX):O1 G 44 (N8 (MI lp G)):=
 .mk Pm <| mJ hL (an:=kQ lp G) (λ_ _=>obs (by kernel_rfl)) λc a0 a1 H n k=>by kernel_rfl
def ALa:Ta:=λlp G c k=>(.s .n (.s .n (.j (λR=>Y3 lp G c k (rg R q2) (rg R q3)) (.s .n (.b (.l _ (vG lp G c k) (λR H n=>(rg R q2,rg R q3,rg R q15,rg R q16,rg R q17,H,n)) λih20=>.n))) .n)))
theorem ALT{lp:He}(hL:Eb lp)(G:AX):O1 G 45 (mM (wO lp G)):=
 .mk zO <| sf1 hL (an:=ALa lp G) (λ_ _=>obs (by kernel_rfl)) λc a0 H n k=>by kernel_rfl
def YG:Ta:=λlp G c k=>(.s .n (.s .n (.j (λR=>F5 lp G c k) (.s .n (.b (.l _ (NH lp G c k) (λR H n=>(rg R q0,rg R q1,rg R q12,rg R q13,H,n)) λih6=>.n))) .n)))
theorem O7{lp:He}(hL:Eb lp)(G:AX):O1 G 46 (N8 (Dj lp G)):=
 .mk Ey <| mJ hL (an:=YG lp G) (λ_ _=>obs (by kernel_rfl)) λc a0 a1 H n k=>by kernel_rfl
def I9:Ta:=λlp G c k=>(.s .n (.s .n (.j (λR=>DJ lp G c k) (.s .n (.b (.l _ (EO lp G c k) (λR H n=>(rg R q1,rg R q2,rg R q15,rg R q16,rg R q17,H,n)) λih6=>.n))) .n)))
theorem I8{lp:He}(hL:Eb lp)(G:AX):O1 G 47 (ar3 (CB lp G)):=
 .mk DR <| sf3 hL (an:=I9 lp G) (λ_ _=>obs (by kernel_rfl)) λc a0 a1 a2 H n k=>by kernel_rfl
def AAL:Ta:=λlp G c k=>.n
theorem zY{lp:He}(hL:Eb lp)(G:AX):O1 G 48 (N8 (TG lp G)):=
 .mk Vy <| mJ hL (an:=AAL lp G) (λ_ _=>obs (by kernel_rfl)) λc a0 a1 H n k=>by kernel_rfl
def rQ:Ta:=λlp G c k=>(.s .n (.s .n (.j (λR=>P9 lp G c k) (.s .n (.b (.l _ (Vh lp G c k) (λR H n=>(rg R q1,rg R q16,rg R q17,rg R q18,H,n)) λih8=>(.s .n (.s .n (.j (λR=>Ox lp G c k ih8 (rg R q1) (rg R q16) (rg R q17) (rg R q18)) (.b (.s .n (.s .n (.s .n (.b (.l _ (Uw lp G c k ih8) (λR H n=>(rg R q1,rg R q16,rg R q17,rg R q18,rg R q56,rg R q57,rg R q58,H,n)) λih48=>.n)))))) .n)))))) .n)))
theorem rJ{lp:He}(hL:Eb lp)(G:AX):O1 G 50 (N8 (Oe lp G)):=
 .mk Ri <| mJ hL (an:=rQ lp G) (λ_ _=>obs (by kernel_rfl)) λc a0 a1 H n k=>by kernel_rfl
def zN:Ta:=λlp G c k=>.n
theorem zC{lp:He}(hL:Eb lp)(G:AX):O1 G 51 (N8 (SV lp G)):=
 .mk V6 <| mJ hL (an:=zN lp G) (λ_ _=>obs (by kernel_rfl)) λc a0 a1 H n k=>by kernel_rfl
def ABL:Ta:=λlp G c k=>.n
theorem AAp{lp:He}(hL:Eb lp)(G:AX):O1 G 52 (N8 (Ub lp G)):=
 .mk XJ <| mJ hL (an:=ABL lp G) (λ_ _=>obs (by kernel_rfl)) λc a0 a1 H n k=>by kernel_rfl
def Uu:Ta:=λlp G c k=>.n
theorem Uc{lp:He}(hL:Eb lp)(G:AX):O1 G 53 (mM (E8 lp G)):=
 .mk G5 <| sf1 hL (an:=Uu lp G) (λ_ _=>obs (by kernel_rfl)) λc a0 H n k=>by kernel_rfl
def jk:Ta:=λlp G c k=>(.s .n (.s .n (.j (λR=>NJ lp G c k (rg R q0) (rg R q3) (rg R q4)) (.s .n (.b (.l _ (S9 lp G c k) (λR H n=>(rg R q0,rg R q3,rg R q4,rg R q16,rg R q17,rg R q18,H,n)) λih22=>.n))) .n)))
theorem kJ{lp:He}(hL:Eb lp)(G:AX):O1 G 54 (N8 (MC lp G)):=
 .mk QC <| mJ hL (an:=jk lp G) (λ_ _=>obs (by kernel_rfl)) λc a0 a1 H n k=>by kernel_rfl
def wL:Ta:=λlp G c k=>(.s .n (.s .n (.j (λR=>MF lp G c k (rg R q9)) (.s .n (.b (.l _ (WW lp G c k) (λR H n=>(rg R q0,rg R q2,rg R q3,rg R q9,rg R q25,rg R q26,rg R q27,H,n)) λih9=>.n))) .n)))
theorem ZQ{lp:He}(hL:Eb lp)(G:AX):O1 G 59 (ar4 (Hl lp G)):=
 .mk KN <| sf4 hL (an:=wL lp G) (λ_ _=>obs (by kernel_rfl)) λc a0 a1 a2 a3 H n k=>by kernel_rfl
def xM:Ta:=λlp G c k=>(.s .n (.s .n (.j (λR=>Rn lp G c k (rg R q6)) (.b (.l _ (X8 lp G c k) (λR H n=>(rg R q0,rg R q1,rg R q6,H,n)) λih2=>.n)) .n)))
theorem yQ{lp:He}(hL:Eb lp)(G:AX):O1 G 67 (N8 (QT lp G)):=
 .mk VB <| mJ hL (an:=xM lp G) (λ_ _=>obs (by kernel_rfl)) λc a0 a1 H n k=>by kernel_rfl
def xP:Ta:=λlp G c k=>(.s .n (.s .n (.j (λR=>RJ lp G c k (rg R q7)) (.s .n (.b (.l _ (XL lp G c k) (λR H n=>(rg R q0,rg R q2,rg R q7,rg R q23,rg R q24,rg R q25,H,n)) λih9=>.n))) .n)))
theorem yO{lp:He}(hL:Eb lp)(G:AX):O1 G 68 (ar3 (Qo lp G)):=
 .mk U7 <| sf3 hL (an:=xP lp G) (λ_ _=>obs (by kernel_rfl)) λc a0 a1 a2 H n k=>by kernel_rfl
def zU:Ta:=λlp G c k=>.n
theorem zA{lp:He}(hL:Eb lp)(G:AX):O1 G 71 (N8 (SI lp G)):=
 .mk Vt <| mJ hL (an:=zU lp G) (λ_ _=>obs (by kernel_rfl)) λc a0 a1 H n k=>by kernel_rfl
def Xp:Ta:=λlp G c k=>.n
theorem Xl{lp:He}(hL:Eb lp)(G:AX):O1 G 77 (N8 (Gn lp G)):=
 .mk JI <| mJ hL (an:=Xp lp G) (λ_ _=>obs (by kernel_rfl)) λc a0 a1 H n k=>by kernel_rfl
def AFm:Ta:=λlp G c k=>(.s .n (.j (λR=>Vl lp G c k (rg R q1)) (.s .n (.b (.l _ (gQ lp G c k) (λR H n=>(rg R q1,rg R q7,rg R q8,H,n)) λih29=>.n))) (.j (λR=>Zi lp G c k) (.s .n (.b (.l _ (lF lp G c k) (λR H n=>(rg R q1,rg R q32,rg R q33,H,n)) λih7=>.n))) .n)))
theorem AFk{lp:He}(hL:Eb lp)(G:AX):O1 G 78 (mM (aZ lp G)):=
 .mk jE <| sf1 hL (an:=AFm lp G) (λ_ _=>obs (by kernel_rfl)) λc a0 H n k=>by kernel_rfl
def xW:Ta:=λlp G c k=>(.s .n (.j (λR=>Rx lp G c k) (.s .n (.b (.l _ (Xj lp G c k) (λR H n=>(rg R q0,rg R q9,rg R q10,rg R q11,H,n)) λih3=>(.s .n (.s .n (.j (λR=>Jm lp G c k ih3 (rg R q0) (rg R q9) (rg R q10) (rg R q11)) .n .n)))))) .n))
theorem xB{lp:He}(hL:Eb lp)(G:AX):O1 G 79 (N8 (QY lp G)):=
 .mk VG <| mJ hL (an:=xW lp G) (λ_ _=>obs (by kernel_rfl)) λc a0 a1 H n k=>by kernel_rfl
def ACg:Ta:=λlp G c k=>.n
theorem ACd{lp:He}(hL:Eb lp)(G:AX):O1 G 80 (N8 (Vp lp G)):=
 .mk Yj <| mJ hL (an:=ACg lp G) (λ_ _=>obs (by kernel_rfl)) λc a0 a1 H n k=>by kernel_rfl
def iW:Ta:=λlp G c k=>(.s .n (.s .n (.s .n (.j (λR=>NI lp G c k (rg R q0) (rg R q9) (rg R q10)) (.s .n (.b (.l _ (Qy lp G c k) (λR H n=>(rg R q0,rg R q1,rg R q2,rg R q7,rg R q9,rg R q10,rg R q11,H,n)) λih15=>.n))) .n))))
theorem jU{lp:He}(hL:Eb lp)(G:AX):O1 G 82 (ar4 (LM lp G)):=
 .mk Ot <| sf4 hL (an:=iW lp G) (λ_ _=>obs (by kernel_rfl)) λc a0 a1 a2 a3 H n k=>by kernel_rfl
def lT:Ta:=λlp G c k=>(.s .n (.s .n (.s (.b (.s .n (.c .n (.s .n (.c .n (.s .n (.c (.s .n (.s .n (.j (λR=>DV lp G c k (rg R q6) (rg R q9)) .n .n))) .n))))))) .n)))
theorem kZ{lp:He}(hL:Eb lp)(G:AX):O1 G 83 (ar3 (Ls lp G)):=
 .mk P8 <| sf3 hL (an:=lT lp G) (λ_ _=>obs (by kernel_rfl)) λc a0 a1 a2 H n k=>by kernel_rfl
def YJ:Ta:=λlp G c k=>.n
theorem YC{lp:He}(hL:Eb lp)(G:AX):O1 G 84 (mM (Gy lp G)):=
 .mk JZ <| sf1 hL (an:=YJ lp G) (λ_ _=>obs (by kernel_rfl)) λc a0 H n k=>by kernel_rfl
def AIp:Ta:=λlp G c k=>(.s .n (.s .n (.j (λR=>bM lp G c k (rg R q2) (rg R q3)) (.s .n (.b (.l _ (pz lp G c k) (λR H n=>(rg R q2,rg R q3,rg R q14,rg R q15,rg R q16,H,n)) λih18=>.n))) .n)))
theorem AJL{lp:He}(hL:Eb lp)(G:AX):O1 G 85 (mM (mY lp G)):=
 .mk tu <| sf1 hL (an:=AIp lp G) (λ_ _=>obs (by kernel_rfl)) λc a0 H n k=>by kernel_rfl
def AAj:Ta:=λlp G c k=>.n
theorem ABK{lp:He}(hL:Eb lp)(G:AX):O1 G 86 (mM (Uk lp G)):=
 .mk Xv <| sf1 hL (an:=AAj lp G) (λ_ _=>obs (by kernel_rfl)) λc a0 H n k=>by kernel_rfl
def KQ:Ta:=λlp G c k=>(.s .n (.s .n (.j (λR=>Dq lp G c k) (.s .n (.b (.l _ (FM lp G c k) (λR H n=>(rg R q1,rg R q2,rg R q15,rg R q16,rg R q17,H,n)) λih6=>.n))) .n)))
theorem KT{lp:He}(hL:Eb lp)(G:AX):O1 G 87 (ar3 (Ci lp G)):=
 .mk Dx <| sf3 hL (an:=KQ lp G) (λ_ _=>obs (by kernel_rfl)) λc a0 a1 a2 H n k=>by kernel_rfl
def ACR:Ta:=λlp G c k=>.n
theorem ABs{lp:He}(hL:Eb lp)(G:AX):O1 G 88 (N8 (Vm lp G)):=
 .mk Yr <| mJ hL (an:=ACR lp G) (λ_ _=>obs (by kernel_rfl)) λc a0 a1 H n k=>by kernel_rfl
def ABx:Ta:=λlp G c k=>(.s .n (.s .n (.j (λR=>U5 lp G c k) (.s .n (.b (.l _ (Ze lp G c k) (λR H n=>(rg R q1,rg R q29,rg R q30,rg R q31,H,n)) λih23=>.n))) .n)))
theorem ACi{lp:He}(hL:Eb lp)(G:AX):O1 G 90 (N8 (Vj lp G)):=
 .mk Yf <| mJ hL (an:=ABx lp G) (λ_ _=>obs (by kernel_rfl)) λc a0 a1 H n k=>by kernel_rfl
def Ko:Ta:=λlp G c k=>(.s .n (.s .n (.j (λR=>Dn lp G c k) (.s .n (.b (.l _ (FD lp G c k) (λR H n=>(rg R q1,rg R q2,rg R q15,rg R q16,rg R q17,H,n)) λih6=>.n))) .n)))
theorem KR{lp:He}(hL:Eb lp)(G:AX):O1 G 91 (ar3 (C9 lp G)):=
 .mk Dz <| sf3 hL (an:=Ko lp G) (λ_ _=>obs (by kernel_rfl)) λc a0 a1 a2 H n k=>by kernel_rfl
def vW:Ta:=λlp G c k=>.n
theorem uD{lp:He}(hL:Eb lp)(G:AX):O1 G 92 (ar3 (PV lp G)):=
 .mk TR <| sf3 hL (an:=vW lp G) (λ_ _=>obs (by kernel_rfl)) λc a0 a1 a2 H n k=>by kernel_rfl
def pR:Ta:=λlp G c k=>(.s .n (.s .n (.s .n (.j (λR=>Oz lp G c k (rg R q0) (rg R q5) (rg R q6)) (.s .n (.b (.l _ (UH lp G c k) (λR H n=>(rg R q0,rg R q5,rg R q6,rg R q15,rg R q16,rg R q17,H,n)) λih17=>.n))) .n))))
theorem nX{lp:He}(hL:Eb lp)(G:AX):O1 G 93 (N8 (NQ lp G)):=
 .mk Qa <| mJ hL (an:=pR lp G) (λ_ _=>obs (by kernel_rfl)) λc a0 a1 H n k=>by kernel_rfl
def yH:Ta:=λlp G c k=>(.s .n (.j (λR=>Rh lp G c k (rg R q4)) (.s .n (.b (.l _ (XQ lp G c k) (λR H n=>(rg R q1,rg R q4,rg R q9,rg R q10,rg R q11,H,n)) λih9=>.n))) .n))
theorem yG{lp:He}(hL:Eb lp)(G:AX):O1 G 100 (N8 (Ql lp G)):=
 .mk U3 <| mJ hL (an:=yH lp G) (λ_ _=>obs (by kernel_rfl)) λc a0 a1 H n k=>by kernel_rfl
def zT:Ta:=λlp G c k=>(.s .n (.j (λR=>UG lp G c k (rg R q4)) (.s .n (.b (.l _ (Yc lp G c k) (λR H n=>(rg R q1,rg R q4,rg R q9,rg R q10,rg R q11,H,n)) λih9=>.n))) .n))
theorem zk{lp:He}(hL:Eb lp)(G:AX):O1 G 108 (N8 (Sj lp G)):=
 .mk Vu <| mJ hL (an:=zT lp G) (λ_ _=>obs (by kernel_rfl)) λc a0 a1 H n k=>by kernel_rfl
def Wq:Ta:=λlp G c k=>.n
theorem Wn{lp:He}(hL:Eb lp)(G:AX):O1 G 110 (N8 (GY lp G)):=
 .mk I4 <| mJ hL (an:=Wq lp G) (λ_ _=>obs (by kernel_rfl)) λc a0 a1 H n k=>by kernel_rfl
def AAu:Ta:=λlp G c k=>.n
theorem ABQ{lp:He}(hL:Eb lp)(G:AX):O1 G 114 (mM (Ud lp G)):=
 .mk Xu <| sf1 hL (an:=AAu lp G) (λ_ _=>obs (by kernel_rfl)) λc a0 H n k=>by kernel_rfl
def AIM:Ta:=λlp G c k=>.n
theorem AH6{lp:He}(hL:Eb lp)(G:AX):O1 G 115 (mM (iE lp G)):=
 .mk oV <| sf1 hL (an:=AIM lp G) (λ_ _=>obs (by kernel_rfl)) λc a0 H n k=>by kernel_rfl
def ZV:Ta:=λlp G c k=>(.s .n (.j (λR=>Jd lp G c k) (.s .n (.b (.l _ (OL lp G c k) (λR H n=>(rg R q0,rg R q1,rg R q7,rg R q8,H,n)) λih3=>.n))) .n))
theorem ZL{lp:He}(hL:Eb lp)(G:AX):O1 G 122 (N8 (IL lp G)):=
 .mk KO <| mJ hL (an:=ZV lp G) (λ_ _=>obs (by kernel_rfl)) λc a0 a1 H n k=>by kernel_rfl
def W9:Ta:=λlp G c k=>(.s .n (.s .n (.j (λR=>II lp G c k) (.s .n (.b (.l _ (Lc lp G c k) (λR H n=>(rg R q0,rg R q1,rg R q12,rg R q13,H,n)) λih6=>.n))) .n)))
theorem Wv{lp:He}(hL:Eb lp)(G:AX):O1 G 123 (N8 (GU lp G)):=
 .mk Iu <| mJ hL (an:=W9 lp G) (λ_ _=>obs (by kernel_rfl)) λc a0 a1 H n k=>by kernel_rfl
def je:Ta:=λlp G c k=>(.s .n (.s .n (.j (λR=>D8 lp G c k (rg R q0) (rg R q6) (rg R q7)) (.s .n (.b (.j (λR=>FH lp G c k (rg R q0) (rg R q1) (rg R q5) (rg R q6) (rg R q7) (rg R q14) (rg R q15)) .n .n))) .n)))
theorem kY{lp:He}(hL:Eb lp)(G:AX):O1 G 124 (ar3 (MO lp G)):=
 .mk Pg <| sf3 hL (an:=je lp G) (λ_ _=>obs (by kernel_rfl)) λc a0 a1 a2 H n k=>by kernel_rfl
def jH:Ta:=λlp G c k=>(.s .n (.s .n (.j (λR=>Me lp G c k (rg R q0) (rg R q4) (rg R q6)) (.s .n (.b (.l _ (Qw lp G c k) (λR H n=>(rg R q0,rg R q3,rg R q4,rg R q6,rg R q13,rg R q14,rg R q15,H,n)) λih19=>(.s .n (.s .n (.j (λR=>EG lp G c k ih19 (rg R q0) (rg R q3) (rg R q4) (rg R q6) (rg R q13) (rg R q14) (rg R q15)) .n .n)))))) .n)))
theorem jR{lp:He}(hL:Eb lp)(G:AX):O1 G 125 (N8 (LH lp G)):=
 .mk Oy <| mJ hL (an:=jH lp G) (λ_ _=>obs (by kernel_rfl)) λc a0 a1 H n k=>by kernel_rfl
def nG:Ta:=λlp G c k=>.n
theorem Xn{lp:He}(hL:Eb lp)(G:AX):O1 G 126 (N8 (F9 lp G)):=
 .mk JJ <| mJ hL (an:=nG lp G) (λ_ _=>obs (by kernel_rfl)) λc a0 a1 H n k=>by kernel_rfl
def kH:Ta:=λlp G c k=>.n
theorem WO{lp:He}(hL:Eb lp)(G:AX):O1 G 127 (N8 (FV lp G)):=
 .mk Ih <| mJ hL (an:=kH lp G) (λ_ _=>obs (by kernel_rfl)) λc a0 a1 H n k=>by kernel_rfl
def ACh:Ta:=λlp G c k=>.n
theorem ABt{lp:He}(hL:Eb lp)(G:AX):O1 G 128 (ar3 (Vr lp G)):=
 .mk Yq <| sf3 hL (an:=ACh lp G) (λ_ _=>obs (by kernel_rfl)) λc a0 a1 a2 H n k=>by kernel_rfl
def jd:Ta:=λlp G c k=>(.s .n (.s .n (.j (λR=>G9 lp G c k (rg R q6) (rg R q7)) .n .n)))
theorem lV{lp:He}(hL:Eb lp)(G:AX):O1 G 129 (ar3 (MP lp G)):=
 .mk Pz <| sf3 hL (an:=jd lp G) (λ_ _=>obs (by kernel_rfl)) λc a0 a1 a2 H n k=>by kernel_rfl
def AB2:Ta:=λlp G c k=>.n
theorem ACQ{lp:He}(hL:Eb lp)(G:AX):O1 G 130 (mM (Vk lp G)):=
 .mk Yt <| sf1 hL (an:=AB2 lp G) (λ_ _=>obs (by kernel_rfl)) λc a0 H n k=>by kernel_rfl
def fF:Ta:=λlp G c k=>.n
theorem fJ{lp:He}(hL:Eb lp)(G:AX):O1 G 131 (ar3 (J8 lp G)):=
 .mk OC <| sf3 hL (an:=fF lp G) (λ_ _=>obs (by kernel_rfl)) λc a0 a1 a2 H n k=>by kernel_rfl
def SA:Ta:=λlp G c k=>.n
theorem RP{lp:He}(hL:Eb lp)(G:AX):O1 G 132 (N8 (EY lp G)):=
 .mk GI <| mJ hL (an:=SA lp G) (λ_ _=>obs (by kernel_rfl)) λc a0 a1 H n k=>by kernel_rfl
def xU:Ta:=λlp G c k=>.n
theorem xK{lp:He}(hL:Eb lp)(G:AX):O1 G 133 (N8 (Qc lp G)):=
 .mk VH <| mJ hL (an:=xU lp G) (λ_ _=>obs (by kernel_rfl)) λc a0 a1 H n k=>by kernel_rfl
def Qh:Ta:=λlp G c k=>.n
theorem Qr{lp:He}(hL:Eb lp)(G:AX):O1 G 134 (N8 (EJ lp G)):=
 .mk FU <| mJ hL (an:=Qh lp G) (λ_ _=>obs (by kernel_rfl)) λc a0 a1 H n k=>by kernel_rfl
def xk:Ta:=λlp G c k=>.n
theorem xH{lp:He}(hL:Eb lp)(G:AX):O1 G 135 (N8 (QK lp G)):=
 .mk VD <| mJ hL (an:=xk lp G) (λ_ _=>obs (by kernel_rfl)) λc a0 a1 H n k=>by kernel_rfl
def KP:Ta:=λlp G c k=>(.s .n (.s .n (.j (λR=>Dk lp G c k) (.s .n (.b (.l _ (FB lp G c k) (λR H n=>(rg R q1,rg R q2,rg R q15,rg R q16,rg R q17,H,n)) λih6=>.n))) .n)))
theorem KU{lp:He}(hL:Eb lp)(G:AX):O1 G 136 (ar3 (Cj lp G)):=
 .mk Dw <| sf3 hL (an:=KP lp G) (λ_ _=>obs (by kernel_rfl)) λc a0 a1 a2 H n k=>by kernel_rfl
def AB0:Ta:=λlp G c k=>.n
theorem ACb{lp:He}(hL:Eb lp)(G:AX):O1 G 137 (N8 (Vq lp G)):=
 .mk Ye <| mJ hL (an:=AB0 lp G) (λ_ _=>obs (by kernel_rfl)) λc a0 a1 H n k=>by kernel_rfl
def AFj:Ta:=λlp G c k=>.n
theorem AEB{lp:He}(hL:Eb lp)(G:AX):O1 G 141 (ar0 (Y2 lp G)):=
 .mk dO <| sf0 hL (an:=AFj lp G) (λ_ _=>obs (by kernel_rfl)) λc H n k=>by kernel_rfl
def ACp:Ta:=λlp G c k=>.n
theorem ABw{lp:He}(hL:Eb lp)(G:AX):O1 G 142 (mM (Vo lp G)):=
 .mk Yi <| sf1 hL (an:=ACp lp G) (λ_ _=>obs (by kernel_rfl)) λc a0 H n k=>by kernel_rfl
def zx:Ta:=λlp G c k=>.n
theorem AAH{lp:He}(hL:Eb lp)(G:AX):O1 G 143 (mM (SK lp G)):=
 .mk WA <| sf1 hL (an:=zx lp G) (λ_ _=>obs (by kernel_rfl)) λc a0 H n k=>by kernel_rfl
def xZ:Ta:=λlp G c k=>(.s .n (.j (λR=>SG lp G c k (rg R q4)) (.s .n (.b (.l _ (XH lp G c k) (λR H n=>(rg R q1,rg R q4,rg R q11,rg R q12,rg R q13,H,n)) λih9=>.n))) .n))
theorem yJ{lp:He}(hL:Eb lp)(G:AX):O1 G 145 (N8 (Qj lp G)):=
 .mk U2 <| mJ hL (an:=xZ lp G) (λ_ _=>obs (by kernel_rfl)) λc a0 a1 H n k=>by kernel_rfl
def qY:Ta:=λlp G c k=>(.s .n (.j (λR=>LK lp G c k (rg R q0)) .n .n))
theorem qg{lp:He}(hL:Eb lp)(G:AX):O1 G 146 (ar4 (OW lp G)):=
 .mk Ry <| sf4 hL (an:=qY lp G) (λ_ _=>obs (by kernel_rfl)) λc a0 a1 a2 a3 H n k=>by kernel_rfl
def sH:Ta:=λlp G c k=>(.s .n (.s .n (.s .n (.s .n (.j (λR=>Hu lp G c k (rg R q0) (rg R q3) (rg R q4)) (.s .n (.b (.l _ (JO lp G c k) (λR H n=>(rg R q0,rg R q3,rg R q4,rg R q39,rg R q40,rg R q41,H,n)) λih130=>.n))) (.s .n (.s .n (.j (λR=>CP lp G c k (rg R q3) (rg R q4)) (.s .n (.b (.s .n (.c .n (.s .n (.c .n (.j (λR=>Dl lp G c k (rg R q0) (rg R q3) (rg R q4) (rg R q7) (rg R q66) (rg R AZe)) .n .n))))))) .n))))))))
theorem rZ{lp:He}(hL:Eb lp)(G:AX):O1 G 147 (N8 (Og lp G)):=
 .mk RZ <| mJ hL (an:=sH lp G) (λ_ _=>obs (by kernel_rfl)) λc a0 a1 H n k=>by kernel_rfl
def dn:Ta:=λlp G c k=>.n
theorem fA{lp:He}(hL:Eb lp)(G:AX):O1 G 174 (N8 (KG lp G)):=
 .mk OB <| mJ hL (an:=dn lp G) (λ_ _=>obs (by kernel_rfl)) λc a0 a1 H n k=>by kernel_rfl
def ng:Ta:=λlp G c k=>.n
theorem mg{lp:He}(hL:Eb lp)(G:AX):O1 G 175 (mM (NU lp G)):=
 .mk QN <| sf1 hL (an:=ng lp G) (λ_ _=>obs (by kernel_rfl)) λc a0 H n k=>by kernel_rfl
def jK:Ta:=λlp G c k=>.n
theorem jQ{lp:He}(hL:Eb lp)(G:AX):O1 G 176 (N8 (Ku lp G)):=
 .mk Ov <| mJ hL (an:=jK lp G) (λ_ _=>obs (by kernel_rfl)) λc a0 a1 H n k=>by kernel_rfl
def fD:Ta:=λlp G c k=>.n
theorem eX{lp:He}(hL:Eb lp)(G:AX):O1 G 177 (ar3 (KC lp G)):=
 .mk OD <| sf3 hL (an:=fD lp G) (λ_ _=>obs (by kernel_rfl)) λc a0 a1 a2 H n k=>by kernel_rfl
def YI:Ta:=λlp G c k=>(.s .n (.s .n (.j (λR=>Ir lp G c k (rg R q0) (rg R q1) (rg R q2) (rg R q6) (rg R q7)) (.b (.l _ (MR lp G c k) (λR H n=>(rg R q0,rg R q1,rg R q2,rg R q6,rg R q7,rg R q8,H,n)) λih18=>.n)) (.s .n (.b (.l _ (NG lp G c k) (λR H n=>(rg R q0,rg R q1,rg R q2,rg R q6,H,n)) λih3=>(.s .n (.b (.s .n (.j (λR=>Np lp G c k ih3 (rg R q0) (rg R q1) (rg R q2) (rg R q6) (rg R q7)) (.b (.l _ (MW lp G c k ih3) (λR H n=>(rg R q0,rg R q1,rg R q2,rg R q6,rg R q7,rg R q8,H,n)) λih12=>.n)) (.j (λR=>Iz lp G c k ih3 (rg R q0) (rg R q1) (rg R q2) (rg R q6)) .n .n)))))))))))
theorem YA{lp:He}(hL:Eb lp)(G:AX):O1 G 178 (ar3 (Gv lp G)):=
 .mk Jf <| sf3 hL (an:=YI lp G) (λ_ _=>obs (by kernel_rfl)) λc a0 a1 a2 H n k=>by kernel_rfl
def Xi:Ta:=λlp G c k=>(.s .n (.s .n (.j (λR=>IW lp G c k (rg R q0) (rg R q1) (rg R q2) (rg R q6) (rg R q7)) (.b (.l _ (Lj lp G c k) (λR H n=>(rg R q0,rg R q1,rg R q2,rg R q6,rg R q7,rg R q8,H,n)) λih18=>.n)) (.s .n (.b (.l _ (MV lp G c k) (λR H n=>(rg R q0,rg R q1,rg R q2,rg R q6,H,n)) λih3=>(.s .n (.b (.s .n (.j (λR=>ND lp G c k ih3 (rg R q0) (rg R q1) (rg R q2) (rg R q6) (rg R q7)) (.b (.l _ (Lm lp G c k ih3) (λR H n=>(rg R q0,rg R q1,rg R q2,rg R q6,rg R q7,rg R q8,H,n)) λih12=>.n)) (.j (λR=>Ia lp G c k ih3 (rg R q0) (rg R q1) (rg R q2) (rg R q6)) .n .n)))))))))))
theorem X6{lp:He}(hL:Eb lp)(G:AX):O1 G 179 (ar3 (Gi lp G)):=
 .mk JB <| sf3 hL (an:=Xi lp G) (λ_ _=>obs (by kernel_rfl)) λc a0 a1 a2 H n k=>by kernel_rfl
def zy:Ta:=λlp G c k=>.n
theorem AAB{lp:He}(hL:Eb lp)(G:AX):O1 G 180 (ar3 (TA lp G)):=
 .mk V8 <| sf3 hL (an:=zy lp G) (λ_ _=>obs (by kernel_rfl)) λc a0 a1 a2 H n k=>by kernel_rfl
def Wj:Ta:=λlp G c k=>.n
theorem Wl{lp:He}(hL:Eb lp)(G:AX):O1 G 182 (mM (Gf lp G)):=
 .mk I5 <| sf1 hL (an:=Wj lp G) (λ_ _=>obs (by kernel_rfl)) λc a0 H n k=>by kernel_rfl
def rM:Ta:=λlp G c k=>(.s .n (.s .n (.j (λR=>BL lp G c k (rg R q3) (rg R q4)) (.s .n (.b (.s .n (.c .n (.j (λR=>IE lp G c k (rg R q0) (rg R q3) (rg R q4) (rg R q12) (rg R q19)) .n (.c .n (.s .n (.c .n (.s .n (.c .n (.s .n (.c .n (.j (λR=>EH lp G c k (rg R q0) (rg R q3) (rg R q4) (rg R q12) (rg R q65)) .n (.c .n (.s .n (.c .n (.s .n (.c (.j (λR=>KF lp G c k (rg R q3) (rg R q4)) .n .n) (.s .n (.c (.j (λR=>J6 lp G c k (rg R q3) (rg R q4)) .n .n) .n)))))))))))))))))))) .n)))
theorem qj{lp:He}(hL:Eb lp)(G:AX):O1 G 183 (N8 (Oi lp G)):=
 .mk Ru <| mJ hL (an:=rM lp G) (λ_ _=>obs (by kernel_rfl)) λc a0 a1 H n k=>by kernel_rfl
def ny:Ta:=λlp G c k=>(.s .n (.j (λR=>VK lp G c k) (.s .n (.b (.l _ (U1 lp G c k) (λR H n=>(rg R q0,rg R q5,rg R q9,rg R q10,rg R q11,H,n)) λih4=>.n))) .n))
theorem nO{lp:He}(hL:Eb lp)(G:AX):O1 G 184 (ar3 (Nb lp G)):=
 .mk Qp <| sf3 hL (an:=ny lp G) (λ_ _=>obs (by kernel_rfl)) λc a0 a1 a2 H n k=>by kernel_rfl
def TU:Ta:=λlp G c k=>(.s .n (.b (.l _ (JY lp G c k) (λR H n=>(rg R q0,rg R q1,rg R q2,rg R q3,rg R q8,H,n)) λih2=>(.s .n (.j (λR=>EW lp G c k ih2 (rg R q0) (rg R q1) (rg R q2) (rg R q3) (rg R q8)) (.b (.s .n (.b (.l _ (JR lp G c k ih2) (λR H n=>(rg R q0,rg R q1,rg R q2,rg R q3,rg R q8,rg R q9,H,n)) λih6=>.n)))) .n)))))
theorem Tq{lp:He}(hL:Eb lp)(G:AX):O1 G 214 (ar4 (Ew lp G)):=
 .mk Gp <| sf4 hL (an:=TU lp G) (λ_ _=>obs (by kernel_rfl)) λc a0 a1 a2 a3 H n k=>by kernel_rfl
def TJ:Ta:=λlp G c k=>(.s .n (.b (.l _ (JM lp G c k) (λR H n=>(rg R q0,rg R q1,rg R q2,rg R q3,rg R q8,H,n)) λih2=>(.s .n (.j (λR=>EN lp G c k ih2 (rg R q0) (rg R q1) (rg R q2) (rg R q3) (rg R q8)) (.b (.s .n (.b (.l _ (JK lp G c k ih2) (λR H n=>(rg R q0,rg R q1,rg R q2,rg R q3,rg R q8,rg R q9,H,n)) λih6=>.n)))) .n)))))
theorem TI{lp:He}(hL:Eb lp)(G:AX):O1 G 216 (ar4 (Ed lp G)):=
 .mk Gg <| sf4 hL (an:=TJ lp G) (λ_ _=>obs (by kernel_rfl)) λc a0 a1 a2 a3 H n k=>by kernel_rfl
def xX:Ta:=λlp G c k=>.n
theorem yM{lp:He}(hL:Eb lp)(G:AX):O1 G 218 (ar3 (QH lp G)):=
 .mk U8 <| sf3 hL (an:=xX lp G) (λ_ _=>obs (by kernel_rfl)) λc a0 a1 a2 H n k=>by kernel_rfl
def rE:Ta:=λlp G c k=>(.s .n (.s .n (.j (λR=>P5 lp G c k (rg R q0)) (.s .n (.b (.l _ (Ux lp G c k) (λR H n=>(rg R q0,rg R q1,rg R q18,rg R q19,rg R q20,H,n)) λih18=>.n))) .n)))
theorem rV{lp:He}(hL:Eb lp)(G:AX):O1 G 219 (N8 (OT lp G)):=
 .mk RN <| mJ hL (an:=rE lp G) (λ_ _=>obs (by kernel_rfl)) λc a0 a1 H n k=>by kernel_rfl
def jh:Ta:=λlp G c k=>(.s .n (.j (λR=>EZ lp G c k (rg R q0) (rg R q1) (rg R q4) (rg R q5)) .n (.s .n (.s .n (.s .n (.j (λR=>JF lp G c k (rg R q1) (rg R q9) (rg R q10)) .n .n))))))
theorem kL{lp:He}(hL:Eb lp)(G:AX):O1 G 220 (N8 (MG lp G)):=
 .mk PZ <| mJ hL (an:=jh lp G) (λ_ _=>obs (by kernel_rfl)) λc a0 a1 H n k=>by kernel_rfl
def ql:Ta:=λlp G c k=>(.b (.s .n (.c .n (.s .n (.c .n (.s .n (.c (.s .n (.j (λR=>F8 lp G c k (rg R q1)) .n .n)) .n)))))))
theorem Jr{lp:He}(hL:Eb lp)(G:AX):O1 G 221 (N8 (Bl lp G)):=
 .mk Df <| mJ hL (an:=ql lp G) (λ_ _=>obs (by kernel_rfl)) λc a0 a1 H n k=>by kernel_rfl
def qU:Ta:=λlp G c k=>(.s .n (.s .n (.s .n (.b (.l _ (Uz lp G c k) (λR H n=>(rg R q0,rg R q7,rg R q21,rg R q22,rg R q23,H,n)) λih13=>.n)))))
theorem rH{lp:He}(hL:Eb lp)(G:AX):O1 G 248 (ar4 (OV lp G)):=
 .mk Rf <| sf4 hL (an:=qU lp G) (λ_ _=>obs (by kernel_rfl)) λc a0 a1 a2 a3 H n k=>by kernel_rfl
end Go.RL
