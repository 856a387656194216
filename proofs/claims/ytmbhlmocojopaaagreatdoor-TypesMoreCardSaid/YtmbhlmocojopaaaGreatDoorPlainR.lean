/- Part of a proof; nothing is assumed. -/
import Derived.Test.YtmbhlmocojopaaaGreatDoorPlain
import Derived.Test.YtmbhlmocojopaaaGreatDoorCode
import Derived.Test.YtmbhlmocojopaaaGreatDoorEngE
set_option linter.unusedVariables false
set_option linter.unusedSimpArgs false
noncomputable section
namespace Go.RL
open Go.DW
set_option maxRecDepth 100000
abbrev Ta:=He->AX->BG->KV->An
inductive Oz(G:AX)(n:Nat)(s:SF):Prop where
 |mk {af:AF} (h:T.get F n=some af) (o:AIV G af s):Oz G n s
def nN:Ta:=λlp G c k=>(.s .n (.s .n (.s .n (.s .n (.s .n (.s .n (.j (λR=>Nw lp G c k) (.s .n (.b (.l _ (NK lp G c k) (λR H n=>(rg R q6,rg R q7,rg R q43,rg R q44,rg R q45,H,n)) λih26=>.n))) .n)))))))
theorem oh{lp:He}(hL:Eb lp)(G:AX):Oz G 5 (OB (Nc lp G)):=
 .mk Qg <| mQ hL (an:=nN lp G) (λ_ _=>obs (by kernel_rfl)) λc a0 a1 H n k=>by kernel_rfl
def tK:Ta:=λlp G c k=>(.s .n (.s .n (.s .n (.s .n (.s .n (.s .n (.s .n (.j (λR=>Ib lp G c k (rg R q3) (rg R q4) (rg R q5)) .n (.j (λR=>Ie lp G c k (rg R q3) (rg R q4) (rg R q5)) .n .n)))))))))
theorem vO{lp:He}(hL:Eb lp)(G:AX):Oz G 14 (mP (PU lp G)):=
 .mk Tj <| sf1 hL (an:=tK lp G) (λ_ _=>obs (by kernel_rfl)) λc a0 H n k=>by kernel_rfl
def zu:Ta:=λlp G c k=>(.s .n (.s .n (.j (λR=>UL lp G c k (rg R q3)) (.s .n (.b (.l _ (YN lp G c k) (λR H n=>(rg R q3,rg R q7,rg R q8,rg R q9,H,n)) λih5=>.n))) .n)))
theorem y5{lp:He}(hL:Eb lp)(G:AX):Oz G 16 (mP (SK lp G)):=
 .mk WB <| sf1 hL (an:=zu lp G) (λ_ _=>obs (by kernel_rfl)) λc a0 H n k=>by kernel_rfl
def ABF:Ta:=λlp G c k=>.n
theorem AA7{lp:He}(hL:Eb lp)(G:AX):Oz G 17 (OB (Ut lp G)):=
 .mk XI <| mQ hL (an:=ABF lp G) (λ_ _=>obs (by kernel_rfl)) λc a0 a1 H n k=>by kernel_rfl
def qw:Ta:=λlp G c k=>(.s .n (.s .n (.j (λR=>O0 lp G c k) (.s .n (.b (.l _ (Uy lp G c k) (λR H n=>(rg R q26,rg R q27,rg R q28,H,n)) λih24=>.n))) .n)))
theorem rH{lp:He}(hL:Eb lp)(G:AX):Oz G 19 (mP (OM lp G)):=
 .mk SE <| sf1 hL (an:=qw lp G) (λ_ _=>obs (by kernel_rfl)) λc a0 H n k=>by kernel_rfl
def AEf:Ta:=λlp G c k=>(.s .n (.s .n (.s .n (.s .n (.s .n (.s .n (.j (λR=>XO lp G c k (rg R q3) (rg R q4) (rg R q5) (rg R q9)) (.s .n (.b (.l _ (dD lp G c k) (λR H n=>(rg R q3,rg R q4,rg R q5,rg R q9,rg R q52,rg R q53,rg R q54,H,n)) λih61=>.n))) .n)))))))
theorem AE9{lp:He}(hL:Eb lp)(G:AX):Oz G 20 (OB (Yz lp G)):=
 .mk dN <| mQ hL (an:=AEf lp G) (λ_ _=>obs (by kernel_rfl)) λc a0 a1 H n k=>by kernel_rfl
def AKY:Ta:=λlp G c k=>.n
theorem ALr{lp:He}(hL:Eb lp)(G:AX):Oz G 30 (ar0 (wP lp G)):=
 .mk AAY <| sf0 hL (an:=AKY lp G) (λ_ _=>obs (by kernel_rfl)) λc H n k=>by kernel_rfl
def AJY:Ta:=λlp G c k=>(.s .n (.s .n (.j (λR=>jI lp G c k (rg R q3)) (.s .n (.b (.l _ (vW lp G c k) (λR H n=>(rg R q3,rg R q10,rg R q11,rg R q12,H,n)) λih7=>.n))) .n)))
theorem AJs{lp:He}(hL:Eb lp)(G:AX):Oz G 36 (mP (pV lp G)):=
 .mk uQ <| sf1 hL (an:=AJY lp G) (λ_ _=>obs (by kernel_rfl)) λc a0 H n k=>by kernel_rfl
def yD:Ta:=λlp G c k=>(.s .n (.s .n (.s .n (.s .n (.s .n (.s .n (.j (λR=>MH lp G c k (rg R q0) (rg R q5)) (.s .n (.b (.l _ (Po lp G c k) (λR H n=>(rg R q0,rg R q5,rg R q67,rg R q68,rg R q69,H,n)) λih74=>.n))) (.j (λR=>Qd lp G c k) (.s .n (.b (.l _ (WY lp G c k) (λR H n=>(rg R q0,rg R q5,rg R q92,rg R q93,rg R q94,H,n)) λih37=>.n))) .n))))))))
theorem yA{lp:He}(hL:Eb lp)(G:AX):Oz G 37 (OB (QW lp G)):=
 .mk U5 <| mQ hL (an:=yD lp G) (λ_ _=>obs (by kernel_rfl)) λc a0 a1 H n k=>by kernel_rfl
def ANf:Ta:=λlp G c k=>.n
theorem ANv{lp:He}(hL:Eb lp)(G:AX):Oz G 40 (mP (ABS lp G)):=
 .mk ACf <| sf1 hL (an:=ANf lp G) (λ_ _=>obs (by kernel_rfl)) λc a0 H n k=>by kernel_rfl
def AA4:Ta:=λlp G c k=>.n
theorem ABj{lp:He}(hL:Eb lp)(G:AX):Oz G 41 (ar0 (Us lp G)):=
 .mk X0 <| sf0 hL (an:=AA4 lp G) (λ_ _=>obs (by kernel_rfl)) λc H n k=>by kernel_rfl
def fD:Ta:=λlp G c k=>(.s .n (.s .n (.s .n (.j (λR=>Fe lp G c k (rg R q0) (rg R q5) (rg R q10) (rg R q12) (rg R q13)) .n (.s .n (.j (λR=>IQ lp G c k (rg R q0) (rg R q10) (rg R q12) (rg R q13)) (.s .n (.b (.l _ (QD lp G c k) (λR H n=>(rg R q0,rg R q10,rg R q12,rg R q13,rg R q32,rg R q33,rg R q34,H,n)) λih33=>.n))) .n))))))
theorem fF{lp:He}(hL:Eb lp)(G:AX):Oz G 42 (ar6 (KF lp G)):=
 .mk N7 <| sf6 hL (an:=fD lp G) (λ_ _=>obs (by kernel_rfl)) λc a0 a1 a2 a3 a4 a5 H n k=>by kernel_rfl
def AIe:Ta:=λlp G c k=>.n
theorem AJ0{lp:He}(hL:Eb lp)(G:AX):Oz G 43 (ar0 (o9 lp G)):=
 .mk sV <| sf0 hL (an:=AIe lp G) (λ_ _=>obs (by kernel_rfl)) λc H n k=>by kernel_rfl
def mF:Ta:=λlp G c k=>.n
theorem kM{lp:He}(hL:Eb lp)(G:AX):Oz G 44 (OB (Lp lp G)):=
 .mk PZ <| mQ hL (an:=mF lp G) (λ_ _=>obs (by kernel_rfl)) λc a0 a1 H n k=>by kernel_rfl
def ALC:Ta:=λlp G c k=>(.s .n (.s .n (.j (λR=>Y1 lp G c k (rg R q2) (rg R q3)) (.s .n (.b (.l _ (vN lp G c k) (λR H n=>(rg R q2,rg R q3,rg R q15,rg R q16,rg R q17,H,n)) λih20=>.n))) .n)))
theorem AKg{lp:He}(hL:Eb lp)(G:AX):Oz G 45 (mP (wX lp G)):=
 .mk zT <| sf1 hL (an:=ALC lp G) (λ_ _=>obs (by kernel_rfl)) λc a0 H n k=>by kernel_rfl
def YJ:Ta:=λlp G c k=>(.s .n (.s .n (.j (λR=>Fq lp G c k) (.s .n (.b (.l _ (NG lp G c k) (λR H n=>(rg R q0,rg R q1,rg R q12,rg R q13,H,n)) λih6=>.n))) .n)))
theorem O5{lp:He}(hL:Eb lp)(G:AX):Oz G 46 (OB (Dj lp G)):=
 .mk Ez <| mQ hL (an:=YJ lp G) (λ_ _=>obs (by kernel_rfl)) λc a0 a1 H n k=>by kernel_rfl
def I8:Ta:=λlp G c k=>(.s .n (.s .n (.j (λR=>DJ lp G c k) (.s .n (.b (.l _ (EP lp G c k) (λR H n=>(rg R q1,rg R q2,rg R q15,rg R q16,rg R q17,H,n)) λih6=>.n))) .n)))
theorem JA{lp:He}(hL:Eb lp)(G:AX):Oz G 47 (ar3 (CB lp G)):=
 .mk DR <| sf3 hL (an:=I8 lp G) (λ_ _=>obs (by kernel_rfl)) λc a0 a1 a2 H n k=>by kernel_rfl
def zN:Ta:=λlp G c k=>.n
theorem AAF{lp:He}(hL:Eb lp)(G:AX):Oz G 48 (OB (TA lp G)):=
 .mk Vy <| mQ hL (an:=zN lp G) (λ_ _=>obs (by kernel_rfl)) λc a0 a1 H n k=>by kernel_rfl
def qX:Ta:=λlp G c k=>(.s .n (.s .n (.j (λR=>Pg lp G c k) (.s .n (.b (.l _ (VW lp G c k) (λR H n=>(rg R q1,rg R q16,rg R q17,rg R q18,H,n)) λih8=>(.s .n (.s .n (.j (λR=>O3 lp G c k ih8 (rg R q1) (rg R q16) (rg R q17) (rg R q18)) (.b (.s .n (.s .n (.s .n (.b (.l _ (Ux lp G c k ih8) (λR H n=>(rg R q1,rg R q16,rg R q17,rg R q18,rg R q56,rg R q57,rg R q58,H,n)) λih48=>.n)))))) .n)))))) .n)))
theorem qh{lp:He}(hL:Eb lp)(G:AX):Oz G 50 (OB (Om lp G)):=
 .mk Ro <| mQ hL (an:=qX lp G) (λ_ _=>obs (by kernel_rfl)) λc a0 a1 H n k=>by kernel_rfl
def zy:Ta:=λlp G c k=>.n
theorem zX{lp:He}(hL:Eb lp)(G:AX):Oz G 51 (OB (SQ lp G)):=
 .mk V5 <| mQ hL (an:=zy lp G) (λ_ _=>obs (by kernel_rfl)) λc a0 a1 H n k=>by kernel_rfl
def ABb:Ta:=λlp G c k=>.n
theorem ABY{lp:He}(hL:Eb lp)(G:AX):Oz G 52 (OB (Uc lp G)):=
 .mk Xu <| mQ hL (an:=ABb lp G) (λ_ _=>obs (by kernel_rfl)) λc a0 a1 H n k=>by kernel_rfl
def Uh:Ta:=λlp G c k=>.n
theorem Ug{lp:He}(hL:Eb lp)(G:AX):Oz G 53 (mP (E8 lp G)):=
 .mk Gy <| sf1 hL (an:=Uh lp G) (λ_ _=>obs (by kernel_rfl)) λc a0 H n k=>by kernel_rfl
def lK:Ta:=λlp G c k=>(.s .n (.s .n (.j (λR=>NC lp G c k (rg R q0) (rg R q3) (rg R q4)) (.s .n (.b (.l _ (Si lp G c k) (λR H n=>(rg R q0,rg R q3,rg R q4,rg R q16,rg R q17,rg R q18,H,n)) λih22=>.n))) .n)))
theorem lU{lp:He}(hL:Eb lp)(G:AX):Oz G 54 (OB (MK lp G)):=
 .mk Pq <| mQ hL (an:=lK lp G) (λ_ _=>obs (by kernel_rfl)) λc a0 a1 H n k=>by kernel_rfl
def uZ:Ta:=λlp G c k=>(.s .n (.s .n (.j (λR=>MI lp G c k (rg R q9)) (.s .n (.b (.l _ (WV lp G c k) (λR H n=>(rg R q0,rg R q2,rg R q3,rg R q9,rg R q25,rg R q26,rg R q27,H,n)) λih9=>.n))) .n)))
theorem ZA{lp:He}(hL:Eb lp)(G:AX):Oz G 59 (ar4 (Hl lp G)):=
 .mk KI <| sf4 hL (an:=uZ lp G) (λ_ _=>obs (by kernel_rfl)) λc a0 a1 a2 a3 H n k=>by kernel_rfl
def xg:Ta:=λlp G c k=>(.s .n (.s .n (.j (λR=>SC lp G c k (rg R q6)) (.b (.l _ (XP lp G c k) (λR H n=>(rg R q0,rg R q1,rg R q6,H,n)) λih2=>.n)) .n)))
theorem yE{lp:He}(hL:Eb lp)(G:AX):Oz G 67 (OB (Ql lp G)):=
 .mk VA <| mQ hL (an:=xg lp G) (λ_ _=>obs (by kernel_rfl)) λc a0 a1 H n k=>by kernel_rfl
def xB:Ta:=λlp G c k=>(.s .n (.s .n (.j (λR=>RU lp G c k (rg R q7)) (.s .n (.b (.l _ (Xf lp G c k) (λR H n=>(rg R q0,rg R q2,rg R q7,rg R q23,rg R q24,rg R q25,H,n)) λih9=>.n))) .n)))
theorem yO{lp:He}(hL:Eb lp)(G:AX):Oz G 68 (ar3 (QM lp G)):=
 .mk U6 <| sf3 hL (an:=xB lp G) (λ_ _=>obs (by kernel_rfl)) λc a0 a1 a2 H n k=>by kernel_rfl
def zF:Ta:=λlp G c k=>.n
theorem AAL{lp:He}(hL:Eb lp)(G:AX):Oz G 71 (OB (Sl lp G)):=
 .mk Vs <| mQ hL (an:=zF lp G) (λ_ _=>obs (by kernel_rfl)) λc a0 a1 H n k=>by kernel_rfl
def XQ:Ta:=λlp G c k=>.n
theorem Xg{lp:He}(hL:Eb lp)(G:AX):Oz G 77 (OB (Gn lp G)):=
 .mk JF <| mQ hL (an:=XQ lp G) (λ_ _=>obs (by kernel_rfl)) λc a0 a1 H n k=>by kernel_rfl
def AFt:Ta:=λlp G c k=>(.s .n (.j (λR=>Vm lp G c k (rg R q1)) (.s .n (.b (.l _ (gW lp G c k) (λR H n=>(rg R q1,rg R q7,rg R q8,H,n)) λih29=>.n))) (.j (λR=>Zl lp G c k) (.s .n (.b (.l _ (lW lp G c k) (λR H n=>(rg R q1,rg R q32,rg R q33,H,n)) λih7=>.n))) .n)))
theorem AFu{lp:He}(hL:Eb lp)(G:AX):Oz G 78 (mP (aV lp G)):=
 .mk iU <| sf1 hL (an:=AFt lp G) (λ_ _=>obs (by kernel_rfl)) λc a0 H n k=>by kernel_rfl
def xk:Ta:=λlp G c k=>(.s .n (.j (λR=>RY lp G c k) (.s .n (.b (.l _ (XR lp G c k) (λR H n=>(rg R q0,rg R q9,rg R q10,rg R q11,H,n)) λih3=>(.s .n (.s .n (.j (λR=>Jm lp G c k ih3 (rg R q0) (rg R q9) (rg R q10) (rg R q11)) .n .n)))))) .n))
theorem xC{lp:He}(hL:Eb lp)(G:AX):Oz G 79 (OB (Qq lp G)):=
 .mk U7 <| mQ hL (an:=xk lp G) (λ_ _=>obs (by kernel_rfl)) λc a0 a1 H n k=>by kernel_rfl
def ACm:Ta:=λlp G c k=>.n
theorem ACe{lp:He}(hL:Eb lp)(G:AX):Oz G 80 (OB (Vk lp G)):=
 .mk Yd <| mQ hL (an:=ACm lp G) (λ_ _=>obs (by kernel_rfl)) λc a0 a1 H n k=>by kernel_rfl
def iJ:Ta:=λlp G c k=>(.s .n (.s .n (.s .n (.j (λR=>NP lp G c k (rg R q0) (rg R q9) (rg R q10)) (.s .n (.b (.l _ (Qy lp G c k) (λR H n=>(rg R q0,rg R q1,rg R q2,rg R q7,rg R q9,rg R q10,rg R q11,H,n)) λih15=>.n))) .n))))
theorem iR{lp:He}(hL:Eb lp)(G:AX):Oz G 82 (ar4 (LU lp G)):=
 .mk Oy <| sf4 hL (an:=iJ lp G) (λ_ _=>obs (by kernel_rfl)) λc a0 a1 a2 a3 H n k=>by kernel_rfl
def lD:Ta:=λlp G c k=>(.s .n (.s .n (.s (.b (.s .n (.c .n (.s .n (.c .n (.s .n (.c (.s .n (.s .n (.j (λR=>DT lp G c k (rg R q6) (rg R q9)) .n .n))) .n))))))) .n)))
theorem lJ{lp:He}(hL:Eb lp)(G:AX):Oz G 83 (ar3 (MB lp G)):=
 .mk QB <| sf3 hL (an:=lD lp G) (λ_ _=>obs (by kernel_rfl)) λc a0 a1 a2 H n k=>by kernel_rfl
def YA:Ta:=λlp G c k=>.n
theorem YG{lp:He}(hL:Eb lp)(G:AX):Oz G 84 (mP (Gw lp G)):=
 .mk Jf <| sf1 hL (an:=YA lp G) (λ_ _=>obs (by kernel_rfl)) λc a0 H n k=>by kernel_rfl
def AIs:Ta:=λlp G c k=>(.s .n (.s .n (.j (λR=>bQ lp G c k (rg R q2) (rg R q3)) (.s .n (.b (.l _ (qM lp G c k) (λR H n=>(rg R q2,rg R q3,rg R q14,rg R q15,rg R q16,H,n)) λih18=>.n))) .n)))
theorem AJd{lp:He}(hL:Eb lp)(G:AX):Oz G 85 (mP (nC lp G)):=
 .mk uG <| sf1 hL (an:=AIs lp G) (λ_ _=>obs (by kernel_rfl)) λc a0 H n k=>by kernel_rfl
def ABg:Ta:=λlp G c k=>.n
theorem AAk{lp:He}(hL:Eb lp)(G:AX):Oz G 86 (mP (Uk lp G)):=
 .mk Xe <| sf1 hL (an:=ABg lp G) (λ_ _=>obs (by kernel_rfl)) λc a0 H n k=>by kernel_rfl
def KY:Ta:=λlp G c k=>(.s .n (.s .n (.j (λR=>Dn lp G c k) (.s .n (.b (.l _ (FK lp G c k) (λR H n=>(rg R q1,rg R q2,rg R q15,rg R q16,rg R q17,H,n)) λih6=>.n))) .n)))
theorem KP{lp:He}(hL:Eb lp)(G:AX):Oz G 87 (ar3 (Cm lp G)):=
 .mk Dz <| sf3 hL (an:=KY lp G) (λ_ _=>obs (by kernel_rfl)) λc a0 a1 a2 H n k=>by kernel_rfl
def ACS:Ta:=λlp G c k=>.n
theorem ACF{lp:He}(hL:Eb lp)(G:AX):Oz G 88 (OB (Vq lp G)):=
 .mk Yk <| mQ hL (an:=ACS lp G) (λ_ _=>obs (by kernel_rfl)) λc a0 a1 H n k=>by kernel_rfl
def ACV:Ta:=λlp G c k=>(.s .n (.s .n (.j (λR=>U2 lp G c k) (.s .n (.b (.l _ (ZX lp G c k) (λR H n=>(rg R q1,rg R q29,rg R q30,rg R q31,H,n)) λih23=>.n))) .n)))
theorem AB1{lp:He}(hL:Eb lp)(G:AX):Oz G 90 (OB (Vj lp G)):=
 .mk Yf <| mQ hL (an:=ACV lp G) (λ_ _=>obs (by kernel_rfl)) λc a0 a1 H n k=>by kernel_rfl
def KZ:Ta:=λlp G c k=>(.s .n (.s .n (.j (λR=>Dk lp G c k) (.s .n (.b (.l _ (FP lp G c k) (λR H n=>(rg R q1,rg R q2,rg R q15,rg R q16,rg R q17,H,n)) λih6=>.n))) .n)))
theorem KW{lp:He}(hL:Eb lp)(G:AX):Oz G 91 (ar3 (Ci lp G)):=
 .mk Dx <| sf3 hL (an:=KZ lp G) (λ_ _=>obs (by kernel_rfl)) λc a0 a1 a2 H n k=>by kernel_rfl
def wL:Ta:=λlp G c k=>.n
theorem uo{lp:He}(hL:Eb lp)(G:AX):Oz G 92 (ar3 (PG lp G)):=
 .mk TW <| sf3 hL (an:=wL lp G) (λ_ _=>obs (by kernel_rfl)) λc a0 a1 a2 H n k=>by kernel_rfl
def nH:Ta:=λlp G c k=>(.s .n (.s .n (.s .n (.j (λR=>Ou lp G c k (rg R q0) (rg R q5) (rg R q6)) (.s .n (.b (.l _ (TR lp G c k) (λR H n=>(rg R q0,rg R q5,rg R q6,rg R q15,rg R q16,rg R q17,H,n)) λih17=>.n))) .n))))
theorem oO{lp:He}(hL:Eb lp)(G:AX):Oz G 93 (OB (NW lp G)):=
 .mk Qp <| mQ hL (an:=nH lp G) (λ_ _=>obs (by kernel_rfl)) λc a0 a1 H n k=>by kernel_rfl
def xW:Ta:=λlp G c k=>(.s .n (.j (λR=>RX lp G c k (rg R q4)) (.s .n (.b (.l _ (X6 lp G c k) (λR H n=>(rg R q1,rg R q4,rg R q9,rg R q10,rg R q11,H,n)) λih9=>.n))) .n))
theorem xw{lp:He}(hL:Eb lp)(G:AX):Oz G 100 (OB (QL lp G)):=
 .mk VF <| mQ hL (an:=xW lp G) (λ_ _=>obs (by kernel_rfl)) λc a0 a1 H n k=>by kernel_rfl
def zH:Ta:=λlp G c k=>(.s .n (.j (λR=>Tz lp G c k (rg R q4)) (.s .n (.b (.l _ (Yb lp G c k) (λR H n=>(rg R q1,rg R q4,rg R q9,rg R q10,rg R q11,H,n)) λih9=>.n))) .n))
theorem AAQ{lp:He}(hL:Eb lp)(G:AX):Oz G 108 (OB (SV lp G)):=
 .mk WE <| mQ hL (an:=zH lp G) (λ_ _=>obs (by kernel_rfl)) λc a0 a1 H n k=>by kernel_rfl
def Wn:Ta:=λlp G c k=>.n
theorem Wy{lp:He}(hL:Eb lp)(G:AX):Oz G 110 (OB (GN lp G)):=
 .mk Iz <| mQ hL (an:=Wn lp G) (λ_ _=>obs (by kernel_rfl)) λc a0 a1 H n k=>by kernel_rfl
def AAs:Ta:=λlp G c k=>.n
theorem ABB{lp:He}(hL:Eb lp)(G:AX):Oz G 114 (mP (Ud lp G)):=
 .mk XZ <| sf1 hL (an:=AAs lp G) (λ_ _=>obs (by kernel_rfl)) λc a0 H n k=>by kernel_rfl
def AHf:Ta:=λlp G c k=>.n
theorem AHo{lp:He}(hL:Eb lp)(G:AX):Oz G 115 (mP (gy lp G)):=
 .mk nO <| sf1 hL (an:=AHf lp G) (λ_ _=>obs (by kernel_rfl)) λc a0 H n k=>by kernel_rfl
def ZJ:Ta:=λlp G c k=>(.s .n (.j (λR=>Jc lp G c k) (.s .n (.b (.l _ (Oi lp G c k) (λR H n=>(rg R q0,rg R q1,rg R q7,rg R q8,H,n)) λih3=>.n))) .n))
theorem ZG{lp:He}(hL:Eb lp)(G:AX):Oz G 122 (OB (IL lp G)):=
 .mk KJ <| mQ hL (an:=ZJ lp G) (λ_ _=>obs (by kernel_rfl)) λc a0 a1 H n k=>by kernel_rfl
def Wx:Ta:=λlp G c k=>(.s .n (.s .n (.j (λR=>IB lp G c k) (.s .n (.b (.l _ (Ld lp G c k) (λR H n=>(rg R q0,rg R q1,rg R q12,rg R q13,H,n)) λih6=>.n))) .n)))
theorem W9{lp:He}(hL:Eb lp)(G:AX):Oz G 123 (OB (GZ lp G)):=
 .mk Ir <| mQ hL (an:=Wx lp G) (λ_ _=>obs (by kernel_rfl)) λc a0 a1 H n k=>by kernel_rfl
def kC:Ta:=λlp G c k=>(.s .n (.s .n (.j (λR=>D8 lp G c k (rg R q0) (rg R q6) (rg R q7)) (.s .n (.b (.j (λR=>FI lp G c k (rg R q0) (rg R q1) (rg R q5) (rg R q6) (rg R q7) (rg R q14) (rg R q15)) .n .n))) .n)))
theorem lI{lp:He}(hL:Eb lp)(G:AX):Oz G 124 (ar3 (Lr lp G)):=
 .mk Pz <| sf3 hL (an:=kC lp G) (λ_ _=>obs (by kernel_rfl)) λc a0 a1 a2 H n k=>by kernel_rfl
def jW:Ta:=λlp G c k=>(.s .n (.s .n (.j (λR=>Mc lp G c k (rg R q0) (rg R q4) (rg R q6)) (.s .n (.b (.l _ (RH lp G c k) (λR H n=>(rg R q0,rg R q3,rg R q4,rg R q6,rg R q13,rg R q14,rg R q15,H,n)) λih19=>(.s .n (.s .n (.j (λR=>ED lp G c k ih19 (rg R q0) (rg R q3) (rg R q4) (rg R q6) (rg R q13) (rg R q14) (rg R q15)) .n .n)))))) .n)))
theorem jG{lp:He}(hL:Eb lp)(G:AX):Oz G 125 (OB (Ku lp G)):=
 .mk Oq <| mQ hL (an:=jW lp G) (λ_ _=>obs (by kernel_rfl)) λc a0 a1 H n k=>by kernel_rfl
def o8:Ta:=λlp G c k=>.n
theorem Xd{lp:He}(hL:Eb lp)(G:AX):Oz G 126 (OB (GK lp G)):=
 .mk JH <| mQ hL (an:=o8 lp G) (λ_ _=>obs (by kernel_rfl)) λc a0 a1 H n k=>by kernel_rfl
def jh:Ta:=λlp G c k=>.n
theorem WU{lp:He}(hL:Eb lp)(G:AX):Oz G 127 (OB (FV lp G)):=
 .mk Ik <| mQ hL (an:=jh lp G) (λ_ _=>obs (by kernel_rfl)) λc a0 a1 H n k=>by kernel_rfl
def ACP:Ta:=λlp G c k=>.n
theorem ACQ{lp:He}(hL:Eb lp)(G:AX):Oz G 128 (ar3 (Vp lp G)):=
 .mk Yg <| sf3 hL (an:=ACP lp G) (λ_ _=>obs (by kernel_rfl)) λc a0 a1 a2 H n k=>by kernel_rfl
def jf:Ta:=λlp G c k=>(.s .n (.s .n (.j (λR=>G6 lp G c k (rg R q6) (rg R q7)) .n .n)))
theorem mD{lp:He}(hL:Eb lp)(G:AX):Oz G 129 (ar3 (MP lp G)):=
 .mk P8 <| sf3 hL (an:=jf lp G) (λ_ _=>obs (by kernel_rfl)) λc a0 a1 a2 H n k=>by kernel_rfl
def ACA:Ta:=λlp G c k=>.n
theorem ACr{lp:He}(hL:Eb lp)(G:AX):Oz G 130 (mP (Vo lp G)):=
 .mk Yn <| sf1 hL (an:=ACA lp G) (λ_ _=>obs (by kernel_rfl)) λc a0 H n k=>by kernel_rfl
def fB:Ta:=λlp G c k=>.n
theorem fH{lp:He}(hL:Eb lp)(G:AX):Oz G 131 (ar3 (J4 lp G)):=
 .mk N9 <| sf3 hL (an:=fB lp G) (λ_ _=>obs (by kernel_rfl)) λc a0 a1 a2 H n k=>by kernel_rfl
def Rz:Ta:=λlp G c k=>.n
theorem Rh{lp:He}(hL:Eb lp)(G:AX):Oz G 132 (OB (EY lp G)):=
 .mk GH <| mQ hL (an:=Rz lp G) (λ_ _=>obs (by kernel_rfl)) λc a0 a1 H n k=>by kernel_rfl
def xG:Ta:=λlp G c k=>.n
theorem xQ{lp:He}(hL:Eb lp)(G:AX):Oz G 133 (OB (Qa lp G)):=
 .mk U3 <| mQ hL (an:=xG lp G) (λ_ _=>obs (by kernel_rfl)) λc a0 a1 H n k=>by kernel_rfl
def QN:Ta:=λlp G c k=>.n
theorem Qo{lp:He}(hL:Eb lp)(G:AX):Oz G 134 (OB (EM lp G)):=
 .mk FU <| mQ hL (an:=QN lp G) (λ_ _=>obs (by kernel_rfl)) λc a0 a1 H n k=>by kernel_rfl
def xu:Ta:=λlp G c k=>.n
theorem yK{lp:He}(hL:Eb lp)(G:AX):Oz G 135 (OB (QG lp G)):=
 .mk VJ <| mQ hL (an:=xu lp G) (λ_ _=>obs (by kernel_rfl)) λc a0 a1 H n k=>by kernel_rfl
def KT:Ta:=λlp G c k=>(.s .n (.s .n (.j (λR=>Dq lp G c k) (.s .n (.b (.l _ (FN lp G c k) (λR H n=>(rg R q1,rg R q2,rg R q15,rg R q16,rg R q17,H,n)) λih6=>.n))) .n)))
theorem Ko{lp:He}(hL:Eb lp)(G:AX):Oz G 136 (ar3 (C9 lp G)):=
 .mk Dw <| sf3 hL (an:=KT lp G) (λ_ _=>obs (by kernel_rfl)) λc a0 a1 a2 H n k=>by kernel_rfl
def AB8:Ta:=λlp G c k=>.n
theorem ACE{lp:He}(hL:Eb lp)(G:AX):Oz G 137 (OB (Vr lp G)):=
 .mk Yo <| mQ hL (an:=AB8 lp G) (λ_ _=>obs (by kernel_rfl)) λc a0 a1 H n k=>by kernel_rfl
def AEA:Ta:=λlp G c k=>.n
theorem AFO{lp:He}(hL:Eb lp)(G:AX):Oz G 141 (ar0 (Yy lp G)):=
 .mk bH <| sf0 hL (an:=AEA lp G) (λ_ _=>obs (by kernel_rfl)) λc H n k=>by kernel_rfl
def ACN:Ta:=λlp G c k=>.n
theorem ACG{lp:He}(hL:Eb lp)(G:AX):Oz G 142 (mP (Vl lp G)):=
 .mk Ym <| sf1 hL (an:=ACN lp G) (λ_ _=>obs (by kernel_rfl)) λc a0 H n k=>by kernel_rfl
def AAJ:Ta:=λlp G c k=>.n
theorem zK{lp:He}(hL:Eb lp)(G:AX):Oz G 143 (mP (TB lp G)):=
 .mk V7 <| sf1 hL (an:=AAJ lp G) (λ_ _=>obs (by kernel_rfl)) λc a0 H n k=>by kernel_rfl
def yI:Ta:=λlp G c k=>(.s .n (.j (λR=>RJ lp G c k (rg R q4)) (.s .n (.b (.l _ (Xk lp G c k) (λR H n=>(rg R q1,rg R q4,rg R q11,rg R q12,rg R q13,H,n)) λih9=>.n))) .n))
theorem yP{lp:He}(hL:Eb lp)(G:AX):Oz G 145 (OB (QJ lp G)):=
 .mk VE <| mQ hL (an:=yI lp G) (λ_ _=>obs (by kernel_rfl)) λc a0 a1 H n k=>by kernel_rfl
def rQ:Ta:=λlp G c k=>(.s .n (.j (λR=>Kr lp G c k (rg R q0)) .n .n))
theorem qj{lp:He}(hL:Eb lp)(G:AX):Oz G 146 (ar4 (OY lp G)):=
 .mk Rl <| sf4 hL (an:=rQ lp G) (λ_ _=>obs (by kernel_rfl)) λc a0 a1 a2 a3 H n k=>by kernel_rfl
def sG:Ta:=λlp G c k=>(.s .n (.s .n (.s .n (.s .n (.j (λR=>II lp G c k (rg R q0) (rg R q3) (rg R q4)) (.s .n (.b (.l _ (JL lp G c k) (λR H n=>(rg R q0,rg R q3,rg R q4,rg R q39,rg R q40,rg R q41,H,n)) λih130=>.n))) (.s .n (.s .n (.j (λR=>CP lp G c k (rg R q3) (rg R q4)) (.s .n (.b (.s .n (.c .n (.s .n (.c .n (.j (λR=>Dl lp G c k (rg R q0) (rg R q3) (rg R q4) (rg R q7) (rg R q66) (rg R AZi)) .n .n))))))) .n))))))))
theorem sK{lp:He}(hL:Eb lp)(G:AX):Oz G 147 (OB (Ob lp G)):=
 .mk Rx <| mQ hL (an:=sG lp G) (λ_ _=>obs (by kernel_rfl)) λc a0 a1 H n k=>by kernel_rfl
def eG:Ta:=λlp G c k=>.n
theorem fC{lp:He}(hL:Eb lp)(G:AX):Oz G 174 (OB (J3 lp G)):=
 .mk OA <| mQ hL (an:=eG lp G) (λ_ _=>obs (by kernel_rfl)) λc a0 a1 H n k=>by kernel_rfl
def mV:Ta:=λlp G c k=>.n
theorem oV{lp:He}(hL:Eb lp)(G:AX):Oz G 175 (mP (Nh lp G)):=
 .mk QT <| sf1 hL (an:=mV lp G) (λ_ _=>obs (by kernel_rfl)) λc a0 H n k=>by kernel_rfl
def jH:Ta:=λlp G c k=>.n
theorem jJ{lp:He}(hL:Eb lp)(G:AX):Oz G 176 (OB (Ky lp G)):=
 .mk Oo <| mQ hL (an:=jH lp G) (λ_ _=>obs (by kernel_rfl)) λc a0 a1 H n k=>by kernel_rfl
def eU:Ta:=λlp G c k=>.n
theorem dw{lp:He}(hL:Eb lp)(G:AX):Oz G 177 (ar3 (J7 lp G)):=
 .mk OD <| sf3 hL (an:=eU lp G) (λ_ _=>obs (by kernel_rfl)) λc a0 a1 a2 H n k=>by kernel_rfl
def YD:Ta:=λlp G c k=>(.s .n (.s .n (.j (λR=>Iw lp G c k (rg R q0) (rg R q1) (rg R q2) (rg R q6) (rg R q7)) (.b (.l _ (MS lp G c k) (λR H n=>(rg R q0,rg R q1,rg R q2,rg R q6,rg R q7,rg R q8,H,n)) λih18=>.n)) (.s .n (.b (.l _ (NJ lp G c k) (λR H n=>(rg R q0,rg R q1,rg R q2,rg R q6,H,n)) λih3=>(.s .n (.b (.s .n (.j (λR=>Nu lp G c k ih3 (rg R q0) (rg R q1) (rg R q2) (rg R q6) (rg R q7)) (.b (.l _ (MW lp G c k ih3) (λR H n=>(rg R q0,rg R q1,rg R q2,rg R q6,rg R q7,rg R q8,H,n)) λih12=>.n)) (.j (λR=>Iq lp G c k ih3 (rg R q0) (rg R q1) (rg R q2) (rg R q6)) .n .n)))))))))))
theorem YC{lp:He}(hL:Eb lp)(G:AX):Oz G 178 (ar3 (G5 lp G)):=
 .mk Ja <| sf3 hL (an:=YD lp G) (λ_ _=>obs (by kernel_rfl)) λc a0 a1 a2 H n k=>by kernel_rfl
def XG:Ta:=λlp G c k=>(.s .n (.s .n (.j (λR=>IZ lp G c k (rg R q0) (rg R q1) (rg R q2) (rg R q6) (rg R q7)) (.b (.l _ (Le lp G c k) (λR H n=>(rg R q0,rg R q1,rg R q2,rg R q6,rg R q7,rg R q8,H,n)) λih18=>.n)) (.s .n (.b (.l _ (MV lp G c k) (λR H n=>(rg R q0,rg R q1,rg R q2,rg R q6,H,n)) λih3=>(.s .n (.b (.s .n (.j (λR=>NH lp G c k ih3 (rg R q0) (rg R q1) (rg R q2) (rg R q6) (rg R q7)) (.b (.l _ (Lh lp G c k ih3) (λR H n=>(rg R q0,rg R q1,rg R q2,rg R q6,rg R q7,rg R q8,H,n)) λih12=>.n)) (.j (λR=>IX lp G c k ih3 (rg R q0) (rg R q1) (rg R q2) (rg R q6)) .n .n)))))))))))
theorem Xw{lp:He}(hL:Eb lp)(G:AX):Oz G 179 (ar3 (Gi lp G)):=
 .mk JI <| sf3 hL (an:=XG lp G) (λ_ _=>obs (by kernel_rfl)) λc a0 a1 a2 H n k=>by kernel_rfl
def AAD:Ta:=λlp G c k=>.n
theorem AAB{lp:He}(hL:Eb lp)(G:AX):Oz G 180 (ar3 (Sz lp G)):=
 .mk V8 <| sf3 hL (an:=AAD lp G) (λ_ _=>obs (by kernel_rfl)) λc a0 a1 a2 H n k=>by kernel_rfl
def Wp:Ta:=λlp G c k=>.n
theorem Wi{lp:He}(hL:Eb lp)(G:AX):Oz G 182 (mP (GY lp G)):=
 .mk Iu <| sf1 hL (an:=Wp lp G) (λ_ _=>obs (by kernel_rfl)) λc a0 H n k=>by kernel_rfl
def ru:Ta:=λlp G c k=>(.s .n (.s .n (.j (λR=>BL lp G c k (rg R q3) (rg R q4)) (.s .n (.b (.s .n (.c .n (.j (λR=>Hz lp G c k (rg R q0) (rg R q3) (rg R q4) (rg R q12) (rg R q19)) .n (.c .n (.s .n (.c .n (.s .n (.c .n (.s .n (.c .n (.j (λR=>EI lp G c k (rg R q0) (rg R q3) (rg R q4) (rg R q12) (rg R q65)) .n (.c .n (.s .n (.c .n (.s .n (.c (.j (λR=>J5 lp G c k (rg R q3) (rg R q4)) .n .n) (.s .n (.c (.j (λR=>J8 lp G c k (rg R q3) (rg R q4)) .n .n) .n)))))))))))))))))))) .n)))
theorem qY{lp:He}(hL:Eb lp)(G:AX):Oz G 183 (OB (OQ lp G)):=
 .mk Ri <| mQ hL (an:=ru lp G) (λ_ _=>obs (by kernel_rfl)) λc a0 a1 H n k=>by kernel_rfl
def mg:Ta:=λlp G c k=>(.s .n (.j (λR=>VL lp G c k) (.s .n (.b (.l _ (U0 lp G c k) (λR H n=>(rg R q0,rg R q5,rg R q9,rg R q10,rg R q11,H,n)) λih4=>.n))) .n))
theorem oW{lp:He}(hL:Eb lp)(G:AX):Oz G 184 (ar3 (Na lp G)):=
 .mk QK <| sf3 hL (an:=mg lp G) (λ_ _=>obs (by kernel_rfl)) λc a0 a1 a2 H n k=>by kernel_rfl
def Td:Ta:=λlp G c k=>(.s .n (.b (.l _ (JV lp G c k) (λR H n=>(rg R q0,rg R q1,rg R q2,rg R q3,rg R q8,H,n)) λih2=>(.s .n (.j (λR=>EU lp G c k ih2 (rg R q0) (rg R q1) (rg R q2) (rg R q3) (rg R q8)) (.b (.s .n (.b (.l _ (JX lp G c k ih2) (λR H n=>(rg R q0,rg R q1,rg R q2,rg R q3,rg R q8,rg R q9,H,n)) λih6=>.n)))) .n)))))
theorem Tf{lp:He}(hL:Eb lp)(G:AX):Oz G 214 (ar4 (Ew lp G)):=
 .mk Gt <| sf4 hL (an:=Td lp G) (λ_ _=>obs (by kernel_rfl)) λc a0 a1 a2 a3 H n k=>by kernel_rfl
def TI:Ta:=λlp G c k=>(.s .n (.b (.l _ (JK lp G c k) (λR H n=>(rg R q0,rg R q1,rg R q2,rg R q3,rg R q8,H,n)) λih2=>(.s .n (.j (λR=>EJ lp G c k ih2 (rg R q0) (rg R q1) (rg R q2) (rg R q3) (rg R q8)) (.b (.s .n (.b (.l _ (JC lp G c k ih2) (λR H n=>(rg R q0,rg R q1,rg R q2,rg R q3,rg R q8,rg R q9,H,n)) λih6=>.n)))) .n)))))
theorem TK{lp:He}(hL:Eb lp)(G:AX):Oz G 216 (ar4 (En lp G)):=
 .mk Gg <| sf4 hL (an:=TI lp G) (λ_ _=>obs (by kernel_rfl)) λc a0 a1 a2 a3 H n k=>by kernel_rfl
def xq:Ta:=λlp G c k=>.n
theorem yQ{lp:He}(hL:Eb lp)(G:AX):Oz G 218 (ar3 (QV lp G)):=
 .mk VD <| sf3 hL (an:=xq lp G) (λ_ _=>obs (by kernel_rfl)) λc a0 a1 a2 H n k=>by kernel_rfl
def rZ:Ta:=λlp G c k=>(.s .n (.s .n (.j (λR=>Pn lp G c k (rg R q0)) (.s .n (.b (.l _ (U1 lp G c k) (λR H n=>(rg R q0,rg R q1,rg R q18,rg R q19,rg R q20,H,n)) λih18=>.n))) .n)))
theorem rC{lp:He}(hL:Eb lp)(G:AX):Oz G 219 (OB (OH lp G)):=
 .mk SB <| mQ hL (an:=rZ lp G) (λ_ _=>obs (by kernel_rfl)) λc a0 a1 H n k=>by kernel_rfl
def mG:Ta:=λlp G c k=>(.s .n (.j (λR=>EZ lp G c k (rg R q0) (rg R q1) (rg R q4) (rg R q5)) .n (.s .n (.s .n (.s .n (.j (λR=>JM lp G c k (rg R q1) (rg R q9) (rg R q10)) .n .n))))))
theorem ku{lp:He}(hL:Eb lp)(G:AX):Oz G 220 (OB (ML lp G)):=
 .mk Py <| mQ hL (an:=mG lp G) (λ_ _=>obs (by kernel_rfl)) λc a0 a1 H n k=>by kernel_rfl
def rD:Ta:=λlp G c k=>(.b (.s .n (.c .n (.s .n (.c .n (.s .n (.c (.s .n (.j (λR=>F8 lp G c k (rg R q1)) .n .n)) .n)))))))
theorem Jk{lp:He}(hL:Eb lp)(G:AX):Oz G 221 (OB (Bq lp G)):=
 .mk Dh <| mQ hL (an:=rD lp G) (λ_ _=>obs (by kernel_rfl)) λc a0 a1 H n k=>by kernel_rfl
def rJ:Ta:=λlp G c k=>(.s .n (.s .n (.s .n (.b (.l _ (Uw lp G c k) (λR H n=>(rg R q0,rg R q7,rg R q21,rg R q22,rg R q23,H,n)) λih13=>.n)))))
theorem qg{lp:He}(hL:Eb lp)(G:AX):Oz G 248 (ar4 (Oj lp G)):=
 .mk SA <| sf4 hL (an:=rJ lp G) (λ_ _=>obs (by kernel_rfl)) λc a0 a1 a2 a3 H n k=>by kernel_rfl
end Go.RL
