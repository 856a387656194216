/- Part of a proof; nothing is assumed. -/
import Derived.Test.YtmbhlmocojopaaaGreatDoorPlain
import Derived.Test.YtmbhlmocojopaaaGreatDoorCode
import Derived.Test.YtmbhlmocojopaaaGreatDoorEngE
set_option linter.unusedVariables false
set_option linter.unusedSimpArgs false
noncomputable section
namespace Go.RL
open Go.DK
set_option maxRecDepth 100000
abbrev Ta:=GN->AX->BG->KV->An
inductive MS(G:AX)(n:Nat)(s:SF):Prop where
 |mk {af:AF} (h:T.get F n=some af) (o:AJr G af s):MS G n s
def je:Ta:=λlp G c k=>(.s .n (.s .n (.s .n (.s .n (.s .n (.s .n (.s .n (.j (λR=>MZ lp G c k) (.s .n (.b (.l _ (MB lp G c k) (λR H n=>(rg R q3,rg R q6,rg R q28,rg R q29,rg R q30,H,n)) λih13=>(.s .n (.s .n (.j (λR=>I5 lp G c k ih13 (rg R q3) (rg R q6) (rg R q28) (rg R q29) (rg R q30)) (.b (.s .n (.s .n (.s .n (.b (.l _ (MN lp G c k ih13) (λR H n=>(rg R q3,rg R q6,rg R q8,rg R q28,rg R q29,rg R q30,rg R q43,rg R q44,rg R q45,H,n)) λih29=>.n)))))) .n)))))) .n))))))))
theorem lD{lp:GN}(hL:ER lp)(G:AX):MS G 4 (ar1 (WW lp G)):=
 .mk mO <| sf1 hL (an:=je lp G) (λ_ _=>obs (by kernel_rfl)) λc a0 H n k=>by kernel_rfl
def vS:Ta:=λlp G c k=>(.s .n (.s .n (.s .n (.s .n (.s .n (.s .n (.s .n (.j (λR=>Ia lp G c k (rg R q3) (rg R q4) (rg R q5)) .n (.j (λR=>IU lp G c k (rg R q3) (rg R q4) (rg R q5)) .n .n)))))))))
theorem xI{lp:GN}(hL:ER lp)(G:AX):MS G 14 (ar1 (ZE lp G)):=
 .mk xQ <| sf1 hL (an:=vS lp G) (λ_ _=>obs (by kernel_rfl)) λc a0 H n k=>by kernel_rfl
def ABG:Ta:=λlp G c k=>(.s .n (.s .n (.s .n (.j (λR=>Ry lp G c k (rg R q5)) (.s .n (.b (.l _ (Xc lp G c k) (λR H n=>(rg R q4,rg R q5,rg R q13,rg R q14,rg R q15,H,n)) λih5=>.n))) .n))))
theorem ABK{lp:GN}(hL:ER lp)(G:AX):MS G 15 (ar1 (gq lp G)):=
 .mk ABM <| sf1 hL (an:=ABG lp G) (λ_ _=>obs (by kernel_rfl)) λc a0 H n k=>by kernel_rfl
def AAS:Ta:=λlp G c k=>(.s .n (.s .n (.j (λR=>TG lp G c k (rg R q3)) (.s .n (.b (.l _ (Xd lp G c k) (λR H n=>(rg R q3,rg R q7,rg R q8,rg R q9,H,n)) λih5=>.n))) .n)))
theorem AA6{lp:GN}(hL:ER lp)(G:AX):MS G 16 (ar1 (iF lp G)):=
 .mk AAJ <| sf1 hL (an:=AAS lp G) (λ_ _=>obs (by kernel_rfl)) λc a0 H n k=>by kernel_rfl
def ABp:Ta:=λlp G c k=>.n
theorem ABl{lp:GN}(hL:ER lp)(G:AX):MS G 17 (dH (lg lp G)):=
 .mk ABx <| nR hL (an:=ABp lp G) (λ_ _=>obs (by kernel_rfl)) λc a0 a1 H n k=>by kernel_rfl
def Yr:Ta:=λlp G c k=>(.s .n (.s .n (.j (λR=>Jq lp G c k (rg R q0) (rg R q5)) (.s .n (.b (.l _ (OI lp G c k) (λR H n=>(rg R q0,rg R q5,rg R q15,rg R q16,rg R q17,H,n)) λih14=>(.s .n (.s .n (.j (λR=>Ey lp G c k ih14 (rg R q0) (rg R q5) (rg R q15) (rg R q16) (rg R q17)) (.b (.s .n (.j (λR=>JW lp G c k ih14 (rg R q0) (rg R q5) (rg R q7) (rg R q15) (rg R q16) (rg R q17)) (.s .n (.b (.l _ (Ny lp G c k ih14) (λR H n=>(rg R q0,rg R q5,rg R q7,rg R q15,rg R q16,rg R q17,rg R q22,rg R q23,rg R q24,H,n)) λih53=>.n))) (.j (λR=>Es lp G c k ih14 (rg R q0) (rg R q5) (rg R q7) (rg R q15) (rg R q16) (rg R q17)) .n .n)))) .n)))))) .n)))
theorem Yt{lp:GN}(hL:ER lp)(G:AX):MS G 18 (dH (RX lp G)):=
 .mk Yo <| nR hL (an:=Yr lp G) (λ_ _=>obs (by kernel_rfl)) λc a0 a1 H n k=>by kernel_rfl
def AFq:Ta:=λlp G c k=>(.s .n (.s .n (.s .n (.s .n (.s .n (.s .n (.j (λR=>V6 lp G c k (rg R q3) (rg R q4) (rg R q5) (rg R q9)) (.s .n (.b (.l _ (aJ lp G c k) (λR H n=>(rg R q3,rg R q4,rg R q5,rg R q9,rg R q52,rg R q53,rg R q54,H,n)) λih61=>.n))) .n)))))))
theorem AFf{lp:GN}(hL:ER lp)(G:AX):MS G 20 (dH (zZ lp G)):=
 .mk AFh <| nR hL (an:=AFq lp G) (λ_ _=>obs (by kernel_rfl)) λc a0 a1 H n k=>by kernel_rfl
def AMn:Ta:=λlp G c k=>.n
theorem AMS{lp:GN}(hL:ER lp)(G:AX):MS G 30 (ar0 (AHf lp G)):=
 .mk AMi <| sf0 hL (an:=AMn lp G) (λ_ _=>obs (by kernel_rfl)) λc H n k=>by kernel_rfl
def ALZ:Ta:=λlp G c k=>(.s .n (.s .n (.j (λR=>iy lp G c k (rg R q3)) (.s .n (.b (.l _ (vO lp G c k) (λR H n=>(rg R q3,rg R q10,rg R q11,rg R q12,H,n)) λih7=>.n))) .n)))
theorem ALO{lp:GN}(hL:ER lp)(G:AX):MS G 36 (ar1 (AGa lp G)):=
 .mk ALa <| sf1 hL (an:=ALZ lp G) (λ_ _=>obs (by kernel_rfl)) λc a0 H n k=>by kernel_rfl
def zO:Ta:=λlp G c k=>(.s .n (.s .n (.s .n (.s .n (.s .n (.s .n (.j (λR=>MP lp G c k (rg R q0) (rg R q5)) (.s .n (.b (.l _ (O1 lp G c k) (λR H n=>(rg R q0,rg R q5,rg R q67,rg R q68,rg R q69,H,n)) λih74=>.n))) (.j (λR=>Ph lp G c k) (.s .n (.b (.l _ (VO lp G c k) (λR H n=>(rg R q0,rg R q5,rg R q92,rg R q93,rg R q94,H,n)) λih37=>.n))) .n))))))))
theorem yU{lp:GN}(hL:ER lp)(G:AX):MS G 37 (dH (bD lp G)):=
 .mk zK <| nR hL (an:=zO lp G) (λ_ _=>obs (by kernel_rfl)) λc a0 a1 H n k=>by kernel_rfl
def APA:Ta:=λlp G c k=>.n
theorem APB{lp:GN}(hL:ER lp)(G:AX):MS G 40 (ar1 (ALd lp G)):=
 .mk APV <| sf1 hL (an:=APA lp G) (λ_ _=>obs (by kernel_rfl)) λc a0 H n k=>by kernel_rfl
def ACo:Ta:=λlp G c k=>.n
theorem AB3{lp:GN}(hL:ER lp)(G:AX):MS G 41 (ar0 (lM lp G)):=
 .mk ABr <| sf0 hL (an:=ACo lp G) (λ_ _=>obs (by kernel_rfl)) λc H n k=>by kernel_rfl
def eY:Ta:=λlp G c k=>(.s .n (.s .n (.s .n (.j (λR=>FZ lp G c k (rg R q0) (rg R q5) (rg R q10) (rg R q12) (rg R q13)) .n (.s .n (.j (λR=>Hz lp G c k (rg R q0) (rg R q10) (rg R q12) (rg R q13)) (.s .n (.b (.l _ (PX lp G c k) (λR H n=>(rg R q0,rg R q10,rg R q12,rg R q13,rg R q32,rg R q33,rg R q34,H,n)) λih33=>.n))) .n))))))
theorem dJ{lp:GN}(hL:ER lp)(G:AX):MS G 42 (ar6 (Ub lp G)):=
 .mk fA <| sf6 hL (an:=eY lp G) (λ_ _=>obs (by kernel_rfl)) λc a0 a1 a2 a3 a4 a5 H n k=>by kernel_rfl
def ALb:Ta:=λlp G c k=>.n
theorem ALQ{lp:GN}(hL:ER lp)(G:AX):MS G 43 (ar0 (AFi lp G)):=
 .mk AKP <| sf0 hL (an:=ALb lp G) (λ_ _=>obs (by kernel_rfl)) λc H n k=>by kernel_rfl
def mG:Ta:=λlp G c k=>.n
theorem mF{lp:GN}(hL:ER lp)(G:AX):MS G 44 (dH (Vz lp G)):=
 .mk kE <| nR hL (an:=mG lp G) (λ_ _=>obs (by kernel_rfl)) λc a0 a1 H n k=>by kernel_rfl
def AMf:Ta:=λlp G c k=>(.s .n (.s .n (.j (λR=>YD lp G c k (rg R q2) (rg R q3)) (.s .n (.b (.l _ (wW lp G c k) (λR H n=>(rg R q2,rg R q3,rg R q15,rg R q16,rg R q17,H,n)) λih20=>.n))) .n)))
theorem ANP{lp:GN}(hL:ER lp)(G:AX):MS G 45 (ar1 (AHY lp G)):=
 .mk AME <| sf1 hL (an:=AMf lp G) (λ_ _=>obs (by kernel_rfl)) λc a0 H n k=>by kernel_rfl
def XQ:Ta:=λlp G c k=>(.s .n (.s .n (.j (λR=>F6 lp G c k) (.s .n (.b (.l _ (Me lp G c k) (λR H n=>(rg R q0,rg R q1,rg R q12,rg R q13,H,n)) λih6=>.n))) .n)))
theorem Oh{lp:GN}(hL:ER lp)(G:AX):MS G 46 (dH (Jr lp G)):=
 .mk XK <| nR hL (an:=XQ lp G) (λ_ _=>obs (by kernel_rfl)) λc a0 a1 H n k=>by kernel_rfl
def Iy:Ta:=λlp G c k=>(.s .n (.s .n (.j (λR=>DN lp G c k) (.s .n (.b (.l _ (EP lp G c k) (λR H n=>(rg R q1,rg R q2,rg R q15,rg R q16,rg R q17,H,n)) λih6=>.n))) .n)))
theorem I4{lp:GN}(hL:ER lp)(G:AX):MS G 47 (ar3 (Ee lp G)):=
 .mk Iz <| sf3 hL (an:=Iy lp G) (λ_ _=>obs (by kernel_rfl)) λc a0 a1 a2 H n k=>by kernel_rfl
def AAL:Ta:=λlp G c k=>.n
theorem AAj{lp:GN}(hL:ER lp)(G:AX):MS G 48 (dH (iJ lp G)):=
 .mk ABR <| nR hL (an:=AAL lp G) (λ_ _=>obs (by kernel_rfl)) λc a0 a1 H n k=>by kernel_rfl
def dV:Ta:=λlp G c k=>(.s .n (.s .n (.s .n (.s .n (.j (λR=>Di lp G c k (rg R q0) (rg R q3) (rg R q7)) .n (.s .n (.j (λR=>La lp G c k) (.s .n (.b (.l _ (PZ lp G c k) (λR H n=>(rg R q0,rg R q86,rg R q87,rg R q88,H,n)) λih26=>.n))) .n)))))))
theorem dZ{lp:GN}(hL:ER lp)(G:AX):MS G 49 (dH (Um lp G)):=
 .mk dh <| nR hL (an:=dV lp G) (λ_ _=>obs (by kernel_rfl)) λc a0 a1 H n k=>by kernel_rfl
def ABA:Ta:=λlp G c k=>.n
theorem AAb{lp:GN}(hL:ER lp)(G:AX):MS G 51 (dH (iD lp G)):=
 .mk AAO <| nR hL (an:=ABA lp G) (λ_ _=>obs (by kernel_rfl)) λc a0 a1 H n k=>by kernel_rfl
def ACb:Ta:=λlp G c k=>.n
theorem AB0{lp:GN}(hL:ER lp)(G:AX):MS G 52 (dH (kV lp G)):=
 .mk ACN <| nR hL (an:=ACb lp G) (λ_ _=>obs (by kernel_rfl)) λc a0 a1 H n k=>by kernel_rfl
def Tj:Ta:=λlp G c k=>.n
theorem TQ{lp:GN}(hL:ER lp)(G:AX):MS G 53 (ar1 (Ls lp G)):=
 .mk TT <| sf1 hL (an:=Tj lp G) (λ_ _=>obs (by kernel_rfl)) λc a0 H n k=>by kernel_rfl
def kF:Ta:=λlp G c k=>(.s .n (.s .n (.j (λR=>NK lp G c k (rg R q0) (rg R q3) (rg R q4)) (.s .n (.b (.l _ (RU lp G c k) (λR H n=>(rg R q0,rg R q3,rg R q4,rg R q16,rg R q17,rg R q18,H,n)) λih22=>.n))) .n)))
theorem nM{lp:GN}(hL:ER lp)(G:AX):MS G 54 (dH (Wx lp G)):=
 .mk lF <| nR hL (an:=kF lp G) (λ_ _=>obs (by kernel_rfl)) λc a0 a1 H n k=>by kernel_rfl
def uV:Ta:=λlp G c k=>(.s .n (.s .n (.j (λR=>L6 lp G c k (rg R q9)) (.s .n (.b (.l _ (VI lp G c k) (λR H n=>(rg R q0,rg R q2,rg R q3,rg R q9,rg R q25,rg R q26,rg R q27,H,n)) λih9=>.n))) .n)))
theorem YO{lp:GN}(hL:ER lp)(G:AX):MS G 59 (ar4 (UG lp G)):=
 .mk xA <| sf4 hL (an:=uV lp G) (λ_ _=>obs (by kernel_rfl)) λc a0 a1 a2 a3 H n k=>by kernel_rfl
def yh:Ta:=λlp G c k=>(.s .n (.s .n (.j (λR=>Qm lp G c k (rg R q6)) (.b (.l _ (WB lp G c k) (λR H n=>(rg R q0,rg R q1,rg R q6,H,n)) λih2=>.n)) .n)))
theorem zJ{lp:GN}(hL:ER lp)(G:AX):MS G 67 (dH (Z7 lp G)):=
 .mk yL <| nR hL (an:=yh lp G) (λ_ _=>obs (by kernel_rfl)) λc a0 a1 H n k=>by kernel_rfl
def zQ:Ta:=λlp G c k=>(.s .n (.s .n (.j (λR=>Qv lp G c k (rg R q7)) (.s .n (.b (.l _ (Ws lp G c k) (λR H n=>(rg R q0,rg R q2,rg R q7,rg R q23,rg R q24,rg R q25,H,n)) λih9=>.n))) .n)))
theorem yu{lp:GN}(hL:ER lp)(G:AX):MS G 68 (ar3 (au lp G)):=
 .mk zN <| sf3 hL (an:=zQ lp G) (λ_ _=>obs (by kernel_rfl)) λc a0 a1 a2 H n k=>by kernel_rfl
def AA7:Ta:=λlp G c k=>.n
theorem ABE{lp:GN}(hL:ER lp)(G:AX):MS G 71 (dH (iI lp G)):=
 .mk AAX <| nR hL (an:=AA7 lp G) (λ_ _=>obs (by kernel_rfl)) λc a0 a1 H n k=>by kernel_rfl
def WL:Ta:=λlp G c k=>.n
theorem Wl{lp:GN}(hL:ER lp)(G:AX):MS G 77 (dH (Og lp G)):=
 .mk WH <| nR hL (an:=WL lp G) (λ_ _=>obs (by kernel_rfl)) λc a0 a1 H n k=>by kernel_rfl
def AG8:Ta:=λlp G c k=>(.s .n (.j (λR=>Ut lp G c k (rg R q1)) (.s .n (.b (.l _ (iH lp G c k) (λR H n=>(rg R q1,rg R q7,rg R q8,H,n)) λih29=>.n))) (.j (λR=>Yv lp G c k) (.s .n (.b (.l _ (lQ lp G c k) (λR H n=>(rg R q1,rg R q32,rg R q33,H,n)) λih7=>.n))) .n)))
theorem AHA{lp:GN}(hL:ER lp)(G:AX):MS G 78 (ar1 (ACD lp G)):=
 .mk AG7 <| sf1 hL (an:=AG8 lp G) (λ_ _=>obs (by kernel_rfl)) λc a0 H n k=>by kernel_rfl
def yX:Ta:=λlp G c k=>(.s .n (.j (λR=>Q5 lp G c k) (.s .n (.b (.l _ (WT lp G c k) (λR H n=>(rg R q0,rg R q9,rg R q10,rg R q11,H,n)) λih3=>(.s .n (.s .n (.j (λR=>Jh lp G c k ih3 (rg R q0) (rg R q9) (rg R q10) (rg R q11)) .n .n)))))) .n))
theorem yO{lp:GN}(hL:ER lp)(G:AX):MS G 79 (dH (bG lp G)):=
 .mk yQ <| nR hL (an:=yX lp G) (λ_ _=>obs (by kernel_rfl)) λc a0 a1 H n k=>by kernel_rfl
def ADG:Ta:=λlp G c k=>.n
theorem ADV{lp:GN}(hL:ER lp)(G:AX):MS G 80 (dH (rH lp G)):=
 .mk ADx <| nR hL (an:=ADG lp G) (λ_ _=>obs (by kernel_rfl)) λc a0 a1 H n k=>by kernel_rfl
def jQ:Ta:=λlp G c k=>(.s .n (.s .n (.s .n (.j (λR=>Mc lp G c k (rg R q0) (rg R q9) (rg R q10)) (.s .n (.b (.l _ (QS lp G c k) (λR H n=>(rg R q0,rg R q1,rg R q2,rg R q7,rg R q9,rg R q10,rg R q11,H,n)) λih15=>.n))) .n))))
theorem iU{lp:GN}(hL:ER lp)(G:AX):MS G 82 (ar4 (VJ lp G)):=
 .mk iV <| sf4 hL (an:=jQ lp G) (λ_ _=>obs (by kernel_rfl)) λc a0 a1 a2 a3 H n k=>by kernel_rfl
def jg:Ta:=λlp G c k=>(.s .n (.s .n (.s (.b (.s .n (.c .n (.s .n (.c .n (.s .n (.c (.s .n (.s .n (.j (λR=>DX lp G c k (rg R q6) (rg R q9)) .n .n))) .n))))))) .n)))
theorem lH{lp:GN}(hL:ER lp)(G:AX):MS G 83 (ar3 (WQ lp G)):=
 .mk lK <| sf3 hL (an:=jg lp G) (λ_ _=>obs (by kernel_rfl)) λc a0 a1 a2 H n k=>by kernel_rfl
def XT:Ta:=λlp G c k=>.n
theorem XH{lp:GN}(hL:ER lp)(G:AX):MS G 84 (ar1 (PO lp G)):=
 .mk XF <| sf1 hL (an:=XT lp G) (λ_ _=>obs (by kernel_rfl)) λc a0 H n k=>by kernel_rfl
def ALp:Ta:=λlp G c k=>(.s .n (.s .n (.j (λR=>bT lp G c k (rg R q2) (rg R q3)) (.s .n (.b (.l _ (rP lp G c k) (λR H n=>(rg R q2,rg R q3,rg R q14,rg R q15,rg R q16,H,n)) λih18=>.n))) .n)))
theorem ALD{lp:GN}(hL:ER lp)(G:AX):MS G 85 (ar1 (AFV lp G)):=
 .mk ALq <| sf1 hL (an:=ALp lp G) (λ_ _=>obs (by kernel_rfl)) λc a0 H n k=>by kernel_rfl
def AB9:Ta:=λlp G c k=>.n
theorem AB8{lp:GN}(hL:ER lp)(G:AX):MS G 86 (ar1 (jZ lp G)):=
 .mk ABb <| sf1 hL (an:=AB9 lp G) (λ_ _=>obs (by kernel_rfl)) λc a0 H n k=>by kernel_rfl
def KY:Ta:=λlp G c k=>(.s .n (.s .n (.j (λR=>Du lp G c k) (.s .n (.b (.l _ (FK lp G c k) (λR H n=>(rg R q1,rg R q2,rg R q15,rg R q16,rg R q17,H,n)) λih6=>.n))) .n)))
theorem KJ{lp:GN}(hL:ER lp)(G:AX):MS G 87 (ar3 (Fh lp G)):=
 .mk KO <| sf3 hL (an:=KY lp G) (λ_ _=>obs (by kernel_rfl)) λc a0 a1 a2 H n k=>by kernel_rfl
def ACw:Ta:=λlp G c k=>.n
theorem ADM{lp:GN}(hL:ER lp)(G:AX):MS G 88 (dH (qm lp G)):=
 .mk AC9 <| nR hL (an:=ACw lp G) (λ_ _=>obs (by kernel_rfl)) λc a0 a1 H n k=>by kernel_rfl
def ji:Ta:=λlp G c k=>(.s .n (.s .n (.j (λR=>CW lp G c k (rg R q0) (rg R q3) (rg R q4) (rg R q5) (rg R q6)) (.s .n (.b (.l _ (QT lp G c k) (λR H n=>(rg R q0,rg R q3,rg R q4,rg R q5,rg R q6,rg R q19,rg R q20,rg R q21,H,n)) λih288=>.n))) (.s .n (.j (λR=>Nr lp G c k (rg R q0) (rg R q3) (rg R q4) (rg R q5) (rg R q6)) (.s .n (.b (.s .n (.c .n (.j (λR=>BH lp G c k (rg R q0) (rg R q3) (rg R q4) (rg R q5) (rg R q6) (rg R q11) (rg R q43) (rg R q48)) .n (.c .n (.s .n (.c .n (.s .n (.c .n (.s .n (.c (.j (λR=>SS lp G c k (rg R q3) (rg R q4) (rg R q5)) (.s .n (.b (.l _ (RF lp G c k) (λR H n=>(rg R q3,rg R q4,rg R q5,rg R q79,rg R q80,rg R q81,H,n)) λih61=>.n))) .n) (.s .n (.c .n (.s .n (.c (.s .n (.j (λR=>Ii lp G c k (rg R q4) (rg R q5) (rg R q14) (rg R q15)) .n .n)) (.s .n (.c .n (.s .n (.c .n (.s .n (.c .n (.j (λR=>CX lp G c k (rg R q0) (rg R q3) (rg R q4) (rg R q5) (rg R q6) (rg R q11) (rg R q43) (rg R Aa2)) .n (.c .n (.j (λR=>EH lp G c k (rg R q0) (rg R q3) (rg R q4) (rg R q5) (rg R q6) (rg R q11) (rg R q43) (rg R AbU)) .n (.c (.s .n (.s .n (.j (λR=>EI lp G c k (rg R q0) (rg R q3) (rg R q4) (rg R q5) (rg R q16)) .n .n))) (.s .n (.c (.s (.s .n (.b (.j (λR=>EJ lp G c k (rg R q3) (rg R q4) (rg R q5) (rg R q6) (rg R q11) (rg R AcA) (rg R Ab8)) .n (.c .n (.j (λR=>GV lp G c k (rg R q4) (rg R q5) (rg R q11) (rg R AcS)) .n .n))))) .n) .n)))))))))))))))))))))))))))) .n)))))
theorem kZ{lp:GN}(hL:ER lp)(G:AX):MS G 89 (dH (WC lp G)):=
 .mk jy <| nR hL (an:=ji lp G) (λ_ _=>obs (by kernel_rfl)) λc a0 a1 H n k=>by kernel_rfl
def KP:Ta:=λlp G c k=>(.s .n (.s .n (.j (λR=>Dw lp G c k) (.s .n (.b (.l _ (FH lp G c k) (λR H n=>(rg R q1,rg R q2,rg R q15,rg R q16,rg R q17,H,n)) λih6=>.n))) .n)))
theorem KI{lp:GN}(hL:ER lp)(G:AX):MS G 91 (ar3 (FW lp G)):=
 .mk KW <| sf3 hL (an:=KP lp G) (λ_ _=>obs (by kernel_rfl)) λc a0 a1 a2 H n k=>by kernel_rfl
def xE:Ta:=λlp G c k=>.n
theorem xP{lp:GN}(hL:ER lp)(G:AX):MS G 92 (ar3 (ZH lp G)):=
 .mk wC <| sf3 hL (an:=xE lp G) (λ_ _=>obs (by kernel_rfl)) λc a0 a1 a2 H n k=>by kernel_rfl
def o7:Ta:=λlp G c k=>(.s .n (.s .n (.s .n (.j (λR=>Oa lp G c k (rg R q0) (rg R q5) (rg R q6)) (.s .n (.b (.l _ (Sj lp G c k) (λR H n=>(rg R q0,rg R q5,rg R q6,rg R q15,rg R q16,rg R q17,H,n)) λih17=>.n))) .n))))
theorem nZ{lp:GN}(hL:ER lp)(G:AX):MS G 93 (dH (Xl lp G)):=
 .mk oL <| nR hL (an:=o7 lp G) (λ_ _=>obs (by kernel_rfl)) λc a0 a1 H n k=>by kernel_rfl
def y9:Ta:=λlp G c k=>(.s .n (.j (λR=>Qr lp G c k (rg R q4)) (.s .n (.b (.l _ (WG lp G c k) (λR H n=>(rg R q1,rg R q4,rg R q9,rg R q10,rg R q11,H,n)) λih9=>.n))) .n))
theorem yT{lp:GN}(hL:ER lp)(G:AX):MS G 100 (dH (Z4 lp G)):=
 .mk zC <| nR hL (an:=y9 lp G) (λ_ _=>obs (by kernel_rfl)) λc a0 a1 H n k=>by kernel_rfl
def AA9:Ta:=λlp G c k=>(.s .n (.j (λR=>SE lp G c k (rg R q4)) (.s .n (.b (.l _ (Xk lp G c k) (λR H n=>(rg R q1,rg R q4,rg R q9,rg R q10,rg R q11,H,n)) λih9=>.n))) .n))
theorem AAy{lp:GN}(hL:ER lp)(G:AX):MS G 108 (dH (gY lp G)):=
 .mk AAf <| nR hL (an:=AA9 lp G) (λ_ _=>obs (by kernel_rfl)) λc a0 a1 H n k=>by kernel_rfl
def Vd:Ta:=λlp G c k=>.n
theorem VU{lp:GN}(hL:ER lp)(G:AX):MS G 110 (dH (N9 lp G)):=
 .mk Vh <| nR hL (an:=Vd lp G) (λ_ _=>obs (by kernel_rfl)) λc a0 a1 H n k=>by kernel_rfl
def ABw:Ta:=λlp G c k=>.n
theorem ABa{lp:GN}(hL:ER lp)(G:AX):MS G 114 (ar1 (mJ lp G)):=
 .mk AB6 <| sf1 hL (an:=ABw lp G) (λ_ _=>obs (by kernel_rfl)) λc a0 H n k=>by kernel_rfl
def AJH:Ta:=λlp G c k=>.n
theorem AIu{lp:GN}(hL:ER lp)(G:AX):MS G 115 (ar1 (AEY lp G)):=
 .mk AIY <| sf1 hL (an:=AJH lp G) (λ_ _=>obs (by kernel_rfl)) λc a0 H n k=>by kernel_rfl
def YI:Ta:=λlp G c k=>(.s .n (.j (λR=>JR lp G c k) (.s .n (.b (.l _ (OA lp G c k) (λR H n=>(rg R q0,rg R q1,rg R q7,rg R q8,H,n)) λih3=>.n))) .n))
theorem YZ{lp:GN}(hL:ER lp)(G:AX):MS G 122 (dH (QU lp G)):=
 .mk Yd <| nR hL (an:=YI lp G) (λ_ _=>obs (by kernel_rfl)) λc a0 a1 H n k=>by kernel_rfl
def Va:Ta:=λlp G c k=>(.s .n (.s .n (.j (λR=>Hr lp G c k) (.s .n (.b (.l _ (Ll lp G c k) (λR H n=>(rg R q0,rg R q1,rg R q12,rg R q13,H,n)) λih6=>.n))) .n)))
theorem VZ{lp:GN}(hL:ER lp)(G:AX):MS G 123 (dH (OB lp G)):=
 .mk VW <| nR hL (an:=Va lp G) (λ_ _=>obs (by kernel_rfl)) λc a0 a1 H n k=>by kernel_rfl
def nH:Ta:=λlp G c k=>(.s .n (.s .n (.j (λR=>D8 lp G c k (rg R q0) (rg R q6) (rg R q7)) (.s .n (.b (.j (λR=>E8 lp G c k (rg R q0) (rg R q1) (rg R q5) (rg R q6) (rg R q7) (rg R q14) (rg R q15)) .n .n))) .n)))
theorem mW{lp:GN}(hL:ER lp)(G:AX):MS G 124 (ar3 (WR lp G)):=
 .mk lu <| sf3 hL (an:=nH lp G) (λ_ _=>obs (by kernel_rfl)) λc a0 a1 a2 H n k=>by kernel_rfl
def iW:Ta:=λlp G c k=>(.s .n (.s .n (.j (λR=>NP lp G c k (rg R q0) (rg R q4) (rg R q6)) (.s .n (.b (.l _ (QY lp G c k) (λR H n=>(rg R q0,rg R q3,rg R q4,rg R q6,rg R q13,rg R q14,rg R q15,H,n)) λih19=>(.s .n (.s .n (.j (λR=>EF lp G c k ih19 (rg R q0) (rg R q3) (rg R q4) (rg R q6) (rg R q13) (rg R q14) (rg R q15)) .n .n)))))) .n)))
theorem jA{lp:GN}(hL:ER lp)(G:AX):MS G 125 (dH (VA lp G)):=
 .mk iP <| nR hL (an:=iW lp G) (λ_ _=>obs (by kernel_rfl)) λc a0 a1 H n k=>by kernel_rfl
def pJ:Ta:=λlp G c k=>.n
theorem WM{lp:GN}(hL:ER lp)(G:AX):MS G 126 (dH (Q8 lp G)):=
 .mk ou <| nR hL (an:=pJ lp G) (λ_ _=>obs (by kernel_rfl)) λc a0 a1 H n k=>by kernel_rfl
def lT:Ta:=λlp G c k=>.n
theorem VN{lp:GN}(hL:ER lp)(G:AX):MS G 127 (dH (Py lp G)):=
 .mk jX <| nR hL (an:=lT lp G) (λ_ _=>obs (by kernel_rfl)) λc a0 a1 H n k=>by kernel_rfl
def ADi:Ta:=λlp G c k=>.n
theorem ADX{lp:GN}(hL:ER lp)(G:AX):MS G 128 (ar3 (rO lp G)):=
 .mk AC3 <| sf3 hL (an:=ADi lp G) (λ_ _=>obs (by kernel_rfl)) λc a0 a1 a2 H n k=>by kernel_rfl
def kP:Ta:=λlp G c k=>(.s .n (.s .n (.j (λR=>Gv lp G c k (rg R q6) (rg R q7)) .n .n)))
theorem mX{lp:GN}(hL:ER lp)(G:AX):MS G 129 (ar3 (Wi lp G)):=
 .mk jf <| sf3 hL (an:=kP lp G) (λ_ _=>obs (by kernel_rfl)) λc a0 a1 a2 H n k=>by kernel_rfl
def AC6:Ta:=λlp G c k=>.n
theorem ADh{lp:GN}(hL:ER lp)(G:AX):MS G 130 (ar1 (rC lp G)):=
 .mk ADP <| sf1 hL (an:=AC6 lp G) (λ_ _=>obs (by kernel_rfl)) λc a0 H n k=>by kernel_rfl
def eu:Ta:=λlp G c k=>.n
theorem dB{lp:GN}(hL:ER lp)(G:AX):MS G 131 (ar3 (Uh lp G)):=
 .mk dn <| sf3 hL (an:=eu lp G) (λ_ _=>obs (by kernel_rfl)) λc a0 a1 a2 H n k=>by kernel_rfl
def Ql:Ta:=λlp G c k=>.n
theorem Qp{lp:GN}(hL:ER lp)(G:AX):MS G 132 (dH (Jt lp G)):=
 .mk Qj <| nR hL (an:=Ql lp G) (λ_ _=>obs (by kernel_rfl)) λc a0 a1 H n k=>by kernel_rfl
def yc:Ta:=λlp G c k=>.n
theorem yG{lp:GN}(hL:ER lp)(G:AX):MS G 133 (dH (aO lp G)):=
 .mk zS <| nR hL (an:=yc lp G) (λ_ _=>obs (by kernel_rfl)) λc a0 a1 H n k=>by kernel_rfl
def QA:Ta:=λlp G c k=>.n
theorem Pj{lp:GN}(hL:ER lp)(G:AX):MS G 134 (dH (JK lp G)):=
 .mk Px <| nR hL (an:=QA lp G) (λ_ _=>obs (by kernel_rfl)) λc a0 a1 H n k=>by kernel_rfl
def yP:Ta:=λlp G c k=>.n
theorem yg{lp:GN}(hL:ER lp)(G:AX):MS G 135 (dH (aN lp G)):=
 .mk zT <| nR hL (an:=yP lp G) (λ_ _=>obs (by kernel_rfl)) λc a0 a1 H n k=>by kernel_rfl
def KT:Ta:=λlp G c k=>(.s .n (.s .n (.j (λR=>Dx lp G c k) (.s .n (.b (.l _ (FD lp G c k) (λR H n=>(rg R q1,rg R q2,rg R q15,rg R q16,rg R q17,H,n)) λih6=>.n))) .n)))
theorem KQ{lp:GN}(hL:ER lp)(G:AX):MS G 136 (ar3 (FY lp G)):=
 .mk KN <| sf3 hL (an:=KT lp G) (λ_ _=>obs (by kernel_rfl)) λc a0 a1 a2 H n k=>by kernel_rfl
def ADq:Ta:=λlp G c k=>.n
theorem ADj{lp:GN}(hL:ER lp)(G:AX):MS G 137 (dH (qg lp G)):=
 .mk ADn <| nR hL (an:=ADq lp G) (λ_ _=>obs (by kernel_rfl)) λc a0 a1 H n k=>by kernel_rfl
def eH:Ta:=λlp G c k=>(.s .n (.j (λR=>MG lp G c k (rg R q5) (rg R q6) (rg R q7)) (.s .n (.b (.l _ (Pg lp G c k) (λR H n=>(rg R q3,rg R q4,rg R q5,rg R q6,rg R q7,rg R q10,rg R q11,rg R q12,H,n)) λih12=>.n))) .n))
theorem eG{lp:GN}(hL:ER lp)(G:AX):MS G 138 (ar4 (UL lp G)):=
 .mk dR <| sf4 hL (an:=eH lp G) (λ_ _=>obs (by kernel_rfl)) λc a0 a1 a2 a3 H n k=>by kernel_rfl
def ABU:Ta:=λlp G c k=>.n
theorem AAc{lp:GN}(hL:ER lp)(G:AX):MS G 139 (ar3 (fV lp G)):=
 .mk AAw <| sf3 hL (an:=ABU lp G) (λ_ _=>obs (by kernel_rfl)) λc a0 a1 a2 H n k=>by kernel_rfl
def AD0:Ta:=λlp G c k=>.n
theorem AD2{lp:GN}(hL:ER lp)(G:AX):MS G 140 (ar0 (qy lp G)):=
 .mk ACv <| sf0 hL (an:=AD0 lp G) (λ_ _=>obs (by kernel_rfl)) λc H n k=>by kernel_rfl
def AGo:Ta:=λlp G c k=>.n
theorem AGU{lp:GN}(hL:ER lp)(G:AX):MS G 141 (ar0 (zY lp G)):=
 .mk AFR <| sf0 hL (an:=AGo lp G) (λ_ _=>obs (by kernel_rfl)) λc H n k=>by kernel_rfl
def ADT:Ta:=λlp G c k=>.n
theorem ADO{lp:GN}(hL:ER lp)(G:AX):MS G 142 (ar1 (rE lp G)):=
 .mk ADw <| sf1 hL (an:=ADT lp G) (λ_ _=>obs (by kernel_rfl)) λc a0 H n k=>by kernel_rfl
def AAR:Ta:=λlp G c k=>.n
theorem AAl{lp:GN}(hL:ER lp)(G:AX):MS G 143 (ar1 (fP lp G)):=
 .mk AAU <| sf1 hL (an:=AAR lp G) (λ_ _=>obs (by kernel_rfl)) λc a0 H n k=>by kernel_rfl
def cu:Ta:=λlp G c k=>(.s .n (.s .n (.s .n (.j (λR=>GU lp G c k (rg R q0) (rg R q4) (rg R q6) (rg R q7) (rg R q8) (rg R q9)) .n (.s .n (.s .n (.s .n (.s .n (.s .n (.j (λR=>LY lp G c k (rg R q6) (rg R q7) (rg R q14)) (.s .n (.b (.l _ (J9 lp G c k) (λR H n=>(rg R q0,rg R q4,rg R q6,rg R q7,rg R q9,rg R q14,rg R Abf,rg R Abb,rg R Aap,H,n)) λih85=>.n))) .n))))))))))
theorem dA{lp:GN}(hL:ER lp)(G:AX):MS G 144 (ar3 (Uk lp G)):=
 .mk eU <| sf3 hL (an:=cu lp G) (λ_ _=>obs (by kernel_rfl)) λc a0 a1 a2 H n k=>by kernel_rfl
def yV:Ta:=λlp G c k=>(.s .n (.j (λR=>Qw lp G c k (rg R q4)) (.s .n (.b (.l _ (XD lp G c k) (λR H n=>(rg R q1,rg R q4,rg R q11,rg R q12,rg R q13,H,n)) λih9=>.n))) .n))
theorem zD{lp:GN}(hL:ER lp)(G:AX):MS G 145 (dH (Zu lp G)):=
 .mk yS <| nR hL (an:=yV lp G) (λ_ _=>obs (by kernel_rfl)) λc a0 a1 H n k=>by kernel_rfl
def sG:Ta:=λlp G c k=>(.s .n (.j (λR=>Ky lp G c k (rg R q0)) .n .n))
theorem rU{lp:GN}(hL:ER lp)(G:AX):MS G 146 (ar4 (YJ lp G)):=
 .mk tu <| sf4 hL (an:=sG lp G) (λ_ _=>obs (by kernel_rfl)) λc a0 a1 a2 a3 H n k=>by kernel_rfl
def uI:Ta:=λlp G c k=>(.s .n (.s .n (.s .n (.s .n (.j (λR=>Hq lp G c k (rg R q0) (rg R q3) (rg R q4)) (.s .n (.b (.l _ (I9 lp G c k) (λR H n=>(rg R q0,rg R q3,rg R q4,rg R q39,rg R q40,rg R q41,H,n)) λih130=>.n))) (.s .n (.s .n (.j (λR=>CS lp G c k (rg R q3) (rg R q4)) (.s .n (.b (.s .n (.c .n (.s .n (.c .n (.j (λR=>Dv lp G c k (rg R q0) (rg R q3) (rg R q4) (rg R q7) (rg R q66) (rg R AcJ)) .n .n))))))) .n))))))))
theorem sV{lp:GN}(hL:ER lp)(G:AX):MS G 147 (dH (YX lp G)):=
 .mk uH <| nR hL (an:=uI lp G) (λ_ _=>obs (by kernel_rfl)) λc a0 a1 H n k=>by kernel_rfl
def dX:Ta:=λlp G c k=>.n
theorem dL{lp:GN}(hL:ER lp)(G:AX):MS G 174 (dH (Un lp G)):=
 .mk dQ <| nR hL (an:=dX lp G) (λ_ _=>obs (by kernel_rfl)) λc a0 a1 H n k=>by kernel_rfl
def qC:Ta:=λlp G c k=>.n
theorem qH{lp:GN}(hL:ER lp)(G:AX):MS G 175 (ar1 (XZ lp G)):=
 .mk qB <| sf1 hL (an:=qC lp G) (λ_ _=>obs (by kernel_rfl)) λc a0 H n k=>by kernel_rfl
def jW:Ta:=λlp G c k=>.n
theorem ig{lp:GN}(hL:ER lp)(G:AX):MS G 176 (dH (VQ lp G)):=
 .mk iZ <| nR hL (an:=jW lp G) (λ_ _=>obs (by kernel_rfl)) λc a0 a1 H n k=>by kernel_rfl
def dK:Ta:=λlp G c k=>.n
theorem dG{lp:GN}(hL:ER lp)(G:AX):MS G 177 (ar3 (UY lp G)):=
 .mk eF <| sf3 hL (an:=dK lp G) (λ_ _=>obs (by kernel_rfl)) λc a0 a1 a2 H n k=>by kernel_rfl
def XO:Ta:=λlp G c k=>(.s .n (.s .n (.j (λR=>Il lp G c k (rg R q0) (rg R q1) (rg R q2) (rg R q6) (rg R q7)) (.b (.l _ (MW lp G c k) (λR H n=>(rg R q0,rg R q1,rg R q2,rg R q6,rg R q7,rg R q8,H,n)) λih18=>.n)) (.s .n (.b (.l _ (NM lp G c k) (λR H n=>(rg R q0,rg R q1,rg R q2,rg R q6,H,n)) λih3=>(.s .n (.b (.s .n (.j (λR=>Nl lp G c k ih3 (rg R q0) (rg R q1) (rg R q2) (rg R q6) (rg R q7)) (.b (.l _ (MR lp G c k ih3) (λR H n=>(rg R q0,rg R q1,rg R q2,rg R q6,rg R q7,rg R q8,H,n)) λih12=>.n)) (.j (λR=>Iq lp G c k ih3 (rg R q0) (rg R q1) (rg R q2) (rg R q6)) .n .n)))))))))))
theorem XW{lp:GN}(hL:ER lp)(G:AX):MS G 178 (ar3 (PG lp G)):=
 .mk XR <| sf3 hL (an:=XO lp G) (λ_ _=>obs (by kernel_rfl)) λc a0 a1 a2 H n k=>by kernel_rfl
def Vy:Ta:=λlp G c k=>(.s .n (.s .n (.j (λR=>IG lp G c k (rg R q0) (rg R q1) (rg R q2) (rg R q6) (rg R q7)) (.b (.l _ (Ld lp G c k) (λR H n=>(rg R q0,rg R q1,rg R q2,rg R q6,rg R q7,rg R q8,H,n)) λih18=>.n)) (.s .n (.b (.l _ (MV lp G c k) (λR H n=>(rg R q0,rg R q1,rg R q2,rg R q6,H,n)) λih3=>(.s .n (.b (.s .n (.j (λR=>NH lp G c k ih3 (rg R q0) (rg R q1) (rg R q2) (rg R q6) (rg R q7)) (.b (.l _ (Lm lp G c k ih3) (λR H n=>(rg R q0,rg R q1,rg R q2,rg R q6,rg R q7,rg R q8,H,n)) λih12=>.n)) (.j (λR=>IJ lp G c k ih3 (rg R q0) (rg R q1) (rg R q2) (rg R q6)) .n .n)))))))))))
theorem XB{lp:GN}(hL:ER lp)(G:AX):MS G 179 (ar3 (Ob lp G)):=
 .mk Vq <| sf3 hL (an:=Vy lp G) (λ_ _=>obs (by kernel_rfl)) λc a0 a1 a2 H n k=>by kernel_rfl
def AAp:Ta:=λlp G c k=>.n
theorem ABQ{lp:GN}(hL:ER lp)(G:AX):MS G 180 (ar3 (gZ lp G)):=
 .mk AAi <| sf3 hL (an:=AAp lp G) (λ_ _=>obs (by kernel_rfl)) λc a0 a1 a2 H n k=>by kernel_rfl
def Vk:Ta:=λlp G c k=>.n
theorem Vg{lp:GN}(hL:ER lp)(G:AX):MS G 182 (ar1 (OE lp G)):=
 .mk Vj <| sf1 hL (an:=Vk lp G) (λ_ _=>obs (by kernel_rfl)) λc a0 H n k=>by kernel_rfl
def tV:Ta:=λlp G c k=>(.s .n (.s .n (.j (λR=>BQ lp G c k (rg R q3) (rg R q4)) (.s .n (.b (.s .n (.c .n (.j (λR=>Hy lp G c k (rg R q0) (rg R q3) (rg R q4) (rg R q12) (rg R q19)) .n (.c .n (.s .n (.c .n (.s .n (.c .n (.s .n (.c .n (.j (λR=>EN lp G c k (rg R q0) (rg R q3) (rg R q4) (rg R q12) (rg R q65)) .n (.c .n (.s .n (.c .n (.s .n (.c (.j (λR=>Jz lp G c k (rg R q3) (rg R q4)) .n .n) (.s .n (.c (.j (λR=>J4 lp G c k (rg R q3) (rg R q4)) .n .n) .n)))))))))))))))))))) .n)))
theorem tC{lp:GN}(hL:ER lp)(G:AX):MS G 183 (dH (YL lp G)):=
 .mk sN <| nR hL (an:=tV lp G) (λ_ _=>obs (by kernel_rfl)) λc a0 a1 H n k=>by kernel_rfl
def oJ:Ta:=λlp G c k=>(.s .n (.j (λR=>UN lp G c k) (.s .n (.b (.l _ (Tv lp G c k) (λR H n=>(rg R q0,rg R q5,rg R q9,rg R q10,rg R q11,H,n)) λih4=>.n))) .n))
theorem pX{lp:GN}(hL:ER lp)(G:AX):MS G 184 (ar3 (Xj lp G)):=
 .mk qE <| sf3 hL (an:=oJ lp G) (λ_ _=>obs (by kernel_rfl)) λc a0 a1 a2 H n k=>by kernel_rfl
def Sm:Ta:=λlp G c k=>(.s .n (.b (.l _ (JM lp G c k) (λR H n=>(rg R q0,rg R q1,rg R q2,rg R q3,rg R q8,H,n)) λih2=>(.s .n (.j (λR=>ET lp G c k ih2 (rg R q0) (rg R q1) (rg R q2) (rg R q3) (rg R q8)) (.b (.s .n (.b (.l _ (JO lp G c k ih2) (λR H n=>(rg R q0,rg R q1,rg R q2,rg R q3,rg R q8,rg R q9,H,n)) λih6=>.n)))) .n)))))
theorem SQ{lp:GN}(hL:ER lp)(G:AX):MS G 214 (ar4 (LD lp G)):=
 .mk Sr <| sf4 hL (an:=Sm lp G) (λ_ _=>obs (by kernel_rfl)) λc a0 a1 a2 a3 H n k=>by kernel_rfl
def Rn:Ta:=λlp G c k=>(.s .n (.b (.l _ (JC lp G c k) (λR H n=>(rg R q0,rg R q1,rg R q2,rg R q3,rg R q8,H,n)) λih2=>(.s .n (.j (λR=>EO lp G c k ih2 (rg R q0) (rg R q1) (rg R q2) (rg R q3) (rg R q8)) (.b (.s .n (.b (.l _ (JA lp G c k ih2) (λR H n=>(rg R q0,rg R q1,rg R q2,rg R q3,rg R q8,rg R q9,H,n)) λih6=>.n)))) .n)))))
theorem Rh{lp:GN}(hL:ER lp)(G:AX):MS G 216 (ar4 (KC lp G)):=
 .mk Ri <| sf4 hL (an:=Rn lp G) (λ_ _=>obs (by kernel_rfl)) λc a0 a1 a2 a3 H n k=>by kernel_rfl
def zI:Ta:=λlp G c k=>.n
theorem zM{lp:GN}(hL:ER lp)(G:AX):MS G 218 (ar3 (bQ lp G)):=
 .mk zA <| sf3 hL (an:=zI lp G) (λ_ _=>obs (by kernel_rfl)) λc a0 a1 a2 H n k=>by kernel_rfl
def sD:Ta:=λlp G c k=>(.s .n (.s .n (.j (λR=>PS lp G c k (rg R q0)) (.s .n (.b (.l _ (Tn lp G c k) (λR H n=>(rg R q0,rg R q1,rg R q18,rg R q19,rg R q20,H,n)) λih18=>.n))) .n)))
theorem ru{lp:GN}(hL:ER lp)(G:AX):MS G 219 (dH (YV lp G)):=
 .mk uM <| nR hL (an:=sD lp G) (λ_ _=>obs (by kernel_rfl)) λc a0 a1 H n k=>by kernel_rfl
def lX:Ta:=λlp G c k=>(.s .n (.j (λR=>EY lp G c k (rg R q0) (rg R q1) (rg R q4) (rg R q5)) .n (.s .n (.s .n (.s .n (.j (λR=>I8 lp G c k (rg R q1) (rg R q9) (rg R q10)) .n .n))))))
theorem lG{lp:GN}(hL:ER lp)(G:AX):MS G 220 (dH (Wp lp G)):=
 .mk jv <| nR hL (an:=lX lp G) (λ_ _=>obs (by kernel_rfl)) λc a0 a1 H n k=>by kernel_rfl
def sJ:Ta:=λlp G c k=>(.b (.s .n (.c .n (.s .n (.c .n (.s .n (.c (.s .n (.j (λR=>GI lp G c k (rg R q1)) .n .n)) .n)))))))
theorem Jg{lp:GN}(hL:ER lp)(G:AX):MS G 221 (dH (IV lp G)):=
 .mk tX <| nR hL (an:=sJ lp G) (λ_ _=>obs (by kernel_rfl)) λc a0 a1 H n k=>by kernel_rfl
def tJ:Ta:=λlp G c k=>(.s .n (.s .n (.s .n (.b (.l _ (Tz lp G c k) (λR H n=>(rg R q0,rg R q7,rg R q21,rg R q22,rg R q23,H,n)) λih13=>.n)))))
theorem sH{lp:GN}(hL:ER lp)(G:AX):MS G 248 (ar4 (Yh lp G)):=
 .mk uN <| sf4 hL (an:=tJ lp G) (λ_ _=>obs (by kernel_rfl)) λc a0 a1 a2 a3 H n k=>by kernel_rfl
theorem go0{G:AX}{f:Nat}{s:BG->Heap->Nat->KV->Prop}{H:Heap}{n:Nat}{k:KV}(z:MS G f (ar0 s))(h:s (Runs F G) H n k):Runs F G f [] H n k:=by
 obtain⟨p,o⟩:=z
 exact AC2 p o h
theorem go1{G:AX}{f:Nat}{s:BG->V->Heap->Nat->KV->Prop}{a0:V}{H:Heap}{n:Nat}{k:KV}(z:MS G f (ar1 s))(h:s (Runs F G) a0 H n k):Runs F G f [a0] H n k:=by
 obtain⟨p,o⟩:=z
 exact AC2 p o h
theorem go2{G:AX}{f:Nat}{s:BG->V->V->Heap->Nat->KV->Prop}{a0 a1:V}{H:Heap}{n:Nat}{k:KV}(z:MS G f (dH s))(h:s (Runs F G) a0 a1 H n k):Runs F G f [a0,a1] H n k:=by
 obtain⟨p,o⟩:=z
 exact AC2 p o h
theorem go3{G:AX}{f:Nat}{s:BG->V->V->V->Heap->Nat->KV->Prop}{a0 a1 a2:V}{H:Heap}{n:Nat}{k:KV}(z:MS G f (ar3 s))(h:s (Runs F G) a0 a1 a2 H n k):Runs F G f [a0,a1,a2] H n k:=by
 obtain⟨p,o⟩:=z
 exact AC2 p o h
theorem go4{G:AX}{f:Nat}{s:BG->V->V->V->V->Heap->Nat->KV->Prop}{a0 a1 a2 a3:V}{H:Heap}{n:Nat}{k:KV}(z:MS G f (ar4 s))(h:s (Runs F G) a0 a1 a2 a3 H n k):Runs F G f [a0,a1,a2,a3] H n k:=by
 obtain⟨p,o⟩:=z
 exact AC2 p o h
theorem go6{G:AX}{f:Nat}{s:BG->V->V->V->V->V->V->Heap->Nat->KV->Prop}{a0 a1 a2 a3 a4 a5:V}{H:Heap}{n:Nat}{k:KV}(z:MS G f (ar6 s))(h:s (Runs F G) a0 a1 a2 a3 a4 a5 H n k):Runs F G f [a0,a1,a2,a3,a4,a5] H n k:=by
 obtain⟨p,o⟩:=z
 exact AC2 p o h
end Go.RL
