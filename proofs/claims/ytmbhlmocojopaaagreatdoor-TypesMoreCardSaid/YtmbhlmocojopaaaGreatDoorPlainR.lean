/- Part of a proof; nothing is assumed. -/
import Derived.Test.YtmbhlmocojopaaaGreatDoorPlain
import Derived.Test.YtmbhlmocojopaaaGreatDoorCode
import Derived.Test.YtmbhlmocojopaaaGreatDoorEngE
set_option linter.unusedVariables false
set_option linter.unusedSimpArgs false
noncomputable section
namespace Go.RL
open Go.DW
set_option maxRecDepth 100000
abbrev Ta:=He->AX->BG->KV->An
inductive Ox(G:AX)(n:Nat)(s:SF):Prop where
 |mk {af:AF} (h:T.get F n=some af) (o:AHn G af s):Ox G n s
def mW:Ta:=λlp G c k=>(.s .n (.s .n (.s .n (.s .n (.s .n (.s .n (.j (λR=>N8 lp G c k) (.s .n (.b (.l _ (NH lp G c k) (λR H n=>(rg R q6,rg R q7,rg R q43,rg R q44,rg R q45,H,n)) λih26=>.n))) .n)))))))
theorem o9{lp:He}(hL:Ea lp)(G:AX):Ox G 5 (OA (Na lp G)):=
 .mk Qj <| mM hL (an:=mW lp G) (λ_ _=>obs (by kernel_rfl)) λc a0 a1 H n k=>by kernel_rfl
def tq:Ta:=λlp G c k=>(.s .n (.s .n (.s .n (.s .n (.s .n (.s .n (.s .n (.j (λR=>Ie lp G c k (rg R q3) (rg R q4) (rg R q5)) .n (.j (λR=>Ii lp G c k (rg R q3) (rg R q4) (rg R q5)) .n .n)))))))))
theorem su{lp:He}(hL:Ea lp)(G:AX):Ox G 14 (mO (PG lp G)):=
 .mk TS <| sf1 hL (an:=tq lp G) (λ_ _=>obs (by kernel_rfl)) λc a0 H n k=>by kernel_rfl
def zN:Ta:=λlp G c k=>(.s .n (.s .n (.j (λR=>Tz lp G c k (rg R q3)) (.s .n (.b (.l _ (YU lp G c k) (λR H n=>(rg R q3,rg R q7,rg R q8,rg R q9,H,n)) λih5=>.n))) .n)))
theorem AAA{lp:He}(hL:Ea lp)(G:AX):Ox G 16 (mO (TD lp G)):=
 .mk Vz <| sf1 hL (an:=zN lp G) (λ_ _=>obs (by kernel_rfl)) λc a0 H n k=>by kernel_rfl
def ABS:Ta:=λlp G c k=>.n
theorem ABW{lp:He}(hL:Ea lp)(G:AX):Ox G 17 (OA (Uk lp G)):=
 .mk Xu <| mM hL (an:=ABS lp G) (λ_ _=>obs (by kernel_rfl)) λc a0 a1 H n k=>by kernel_rfl
def qZ:Ta:=λlp G c k=>(.s .n (.s .n (.j (λR=>Oz lp G c k) (.s .n (.b (.l _ (U0 lp G c k) (λR H n=>(rg R q26,rg R q27,rg R q28,H,n)) λih24=>.n))) .n)))
theorem rD{lp:He}(hL:Ea lp)(G:AX):Ox G 19 (mO (Oc lp G)):=
 .mk Ri <| sf1 hL (an:=qZ lp G) (λ_ _=>obs (by kernel_rfl)) λc a0 H n k=>by kernel_rfl
def AFB:Ta:=λlp G c k=>(.s .n (.s .n (.s .n (.s .n (.s .n (.s .n (.j (λR=>XQ lp G c k (rg R q3) (rg R q4) (rg R q5) (rg R q9)) (.s .n (.b (.l _ (dN lp G c k) (λR H n=>(rg R q3,rg R q4,rg R q5,rg R q9,rg R q52,rg R q53,rg R q54,H,n)) λih61=>.n))) .n)))))))
theorem AE3{lp:He}(hL:Ea lp)(G:AX):Ox G 20 (OA (Y1 lp G)):=
 .mk dG <| mM hL (an:=AFB lp G) (λ_ _=>obs (by kernel_rfl)) λc a0 a1 H n k=>by kernel_rfl
def AKt:Ta:=λlp G c k=>.n
theorem AK0{lp:He}(hL:Ea lp)(G:AX):Ox G 30 (ar0 (wS lp G)):=
 .mk AAc <| sf0 hL (an:=AKt lp G) (λ_ _=>obs (by kernel_rfl)) λc H n k=>by kernel_rfl
def AJ6:Ta:=λlp G c k=>(.s .n (.s .n (.j (λR=>jR lp G c k (rg R q3)) (.s .n (.b (.l _ (sZ lp G c k) (λR H n=>(rg R q3,rg R q10,rg R q11,rg R q12,H,n)) λih7=>.n))) .n)))
theorem AJ8{lp:He}(hL:Ea lp)(G:AX):Ox G 36 (mO (oD lp G)):=
 .mk tJ <| sf1 hL (an:=AJ6 lp G) (λ_ _=>obs (by kernel_rfl)) λc a0 H n k=>by kernel_rfl
def yQ:Ta:=λlp G c k=>(.s .n (.s .n (.s .n (.s .n (.s .n (.s .n (.j (λR=>Lu lp G c k (rg R q0) (rg R q5)) (.s .n (.b (.l _ (P7 lp G c k) (λR H n=>(rg R q0,rg R q5,rg R q67,rg R q68,rg R q69,H,n)) λih74=>.n))) (.j (λR=>Qa lp G c k) (.s .n (.b (.l _ (WW lp G c k) (λR H n=>(rg R q0,rg R q5,rg R q92,rg R q93,rg R q94,H,n)) λih37=>.n))) .n))))))))
theorem yA{lp:He}(hL:Ea lp)(G:AX):Ox G 37 (OA (QI lp G)):=
 .mk U7 <| mM hL (an:=yQ lp G) (λ_ _=>obs (by kernel_rfl)) λc a0 a1 H n k=>by kernel_rfl
def AN6:Ta:=λlp G c k=>.n
theorem ANi{lp:He}(hL:Ea lp)(G:AX):Ox G 40 (mO (ABg lp G)):=
 .mk ACG <| sf1 hL (an:=AN6 lp G) (λ_ _=>obs (by kernel_rfl)) λc a0 H n k=>by kernel_rfl
def AAw:Ta:=λlp G c k=>.n
theorem ABA{lp:He}(hL:Ea lp)(G:AX):Ox G 41 (ar0 (Ub lp G)):=
 .mk XP <| sf0 hL (an:=AAw lp G) (λ_ _=>obs (by kernel_rfl)) λc H n k=>by kernel_rfl
def eu:Ta:=λlp G c k=>(.s .n (.s .n (.s .n (.j (λR=>FZ lp G c k (rg R q0) (rg R q5) (rg R q10) (rg R q12) (rg R q13)) .n (.s .n (.j (λR=>IL lp G c k (rg R q0) (rg R q10) (rg R q12) (rg R q13)) (.s .n (.b (.l _ (QE lp G c k) (λR H n=>(rg R q0,rg R q10,rg R q12,rg R q13,rg R q32,rg R q33,rg R q34,H,n)) λih33=>.n))) .n))))))
theorem eY{lp:He}(hL:Ea lp)(G:AX):Ox G 42 (ar6 (KC lp G)):=
 .mk OC <| sf6 hL (an:=eu lp G) (λ_ _=>obs (by kernel_rfl)) λc a0 a1 a2 a3 a4 a5 H n k=>by kernel_rfl
def AJj:Ta:=λlp G c k=>.n
theorem AJi{lp:He}(hL:Ea lp)(G:AX):Ox G 43 (ar0 (oh lp G)):=
 .mk uj <| sf0 hL (an:=AJj lp G) (λ_ _=>obs (by kernel_rfl)) λc H n k=>by kernel_rfl
def kG:Ta:=λlp G c k=>.n
theorem lQ{lp:He}(hL:Ea lp)(G:AX):Ox G 44 (OA (MB lp G)):=
 .mk Px <| mM hL (an:=kG lp G) (λ_ _=>obs (by kernel_rfl)) λc a0 a1 H n k=>by kernel_rfl
def ALq:Ta:=λlp G c k=>(.s .n (.s .n (.j (λR=>Y3 lp G c k (rg R q2) (rg R q3)) (.s .n (.b (.l _ (uw lp G c k) (λR H n=>(rg R q2,rg R q3,rg R q15,rg R q16,rg R q17,H,n)) λih20=>.n))) .n)))
theorem ALn{lp:He}(hL:Ea lp)(G:AX):Ox G 45 (mO (wU lp G)):=
 .mk zi <| sf1 hL (an:=ALq lp G) (λ_ _=>obs (by kernel_rfl)) λc a0 H n k=>by kernel_rfl
def YH:Ta:=λlp G c k=>(.s .n (.s .n (.j (λR=>Fz lp G c k) (.s .n (.b (.l _ (NP lp G c k) (λR H n=>(rg R q0,rg R q1,rg R q12,rg R q13,H,n)) λih6=>.n))) .n)))
theorem O5{lp:He}(hL:Ea lp)(G:AX):Ox G 46 (OA (Dj lp G)):=
 .mk Ez <| mM hL (an:=YH lp G) (λ_ _=>obs (by kernel_rfl)) λc a0 a1 H n k=>by kernel_rfl
def I9:Ta:=λlp G c k=>(.s .n (.s .n (.j (λR=>DJ lp G c k) (.s .n (.b (.l _ (ES lp G c k) (λR H n=>(rg R q1,rg R q2,rg R q15,rg R q16,rg R q17,H,n)) λih6=>.n))) .n)))
theorem JA{lp:He}(hL:Ea lp)(G:AX):Ox G 47 (ar3 (CG lp G)):=
 .mk DR <| sf3 hL (an:=I9 lp G) (λ_ _=>obs (by kernel_rfl)) λc a0 a1 a2 H n k=>by kernel_rfl
def zL:Ta:=λlp G c k=>.n
theorem zV{lp:He}(hL:Ea lp)(G:AX):Ox G 48 (OA (TA lp G)):=
 .mk V4 <| mM hL (an:=zL lp G) (λ_ _=>obs (by kernel_rfl)) λc a0 a1 H n k=>by kernel_rfl
def sG:Ta:=λlp G c k=>(.s .n (.s .n (.j (λR=>PZ lp G c k) (.s .n (.b (.l _ (Ve lp G c k) (λR H n=>(rg R q1,rg R q16,rg R q17,rg R q18,H,n)) λih8=>(.s .n (.s .n (.j (λR=>Oq lp G c k ih8 (rg R q1) (rg R q16) (rg R q17) (rg R q18)) (.b (.s .n (.s .n (.s .n (.b (.l _ (U1 lp G c k ih8) (λR H n=>(rg R q1,rg R q16,rg R q17,rg R q18,rg R q56,rg R q57,rg R q58,H,n)) λih48=>.n)))))) .n)))))) .n)))
theorem qX{lp:He}(hL:Ea lp)(G:AX):Ox G 50 (OA (OM lp G)):=
 .mk RJ <| mM hL (an:=sG lp G) (λ_ _=>obs (by kernel_rfl)) λc a0 a1 H n k=>by kernel_rfl
def zD:Ta:=λlp G c k=>.n
theorem y8{lp:He}(hL:Ea lp)(G:AX):Ox G 51 (OA (TG lp G)):=
 .mk V9 <| mM hL (an:=zD lp G) (λ_ _=>obs (by kernel_rfl)) λc a0 a1 H n k=>by kernel_rfl
def ABm:Ta:=λlp G c k=>.n
theorem AAt{lp:He}(hL:Ea lp)(G:AX):Ox G 52 (OA (Ua lp G)):=
 .mk Xl <| mM hL (an:=ABm lp G) (λ_ _=>obs (by kernel_rfl)) λc a0 a1 H n k=>by kernel_rfl
def Uj:Ta:=λlp G c k=>.n
theorem Ul{lp:He}(hL:Ea lp)(G:AX):Ox G 53 (mO (E8 lp G)):=
 .mk G5 <| sf1 hL (an:=Uj lp G) (λ_ _=>obs (by kernel_rfl)) λc a0 H n k=>by kernel_rfl
def lD:Ta:=λlp G c k=>(.s .n (.s .n (.j (λR=>NJ lp G c k (rg R q0) (rg R q3) (rg R q4)) (.s .n (.b (.l _ (TB lp G c k) (λR H n=>(rg R q0,rg R q3,rg R q4,rg R q16,rg R q17,rg R q18,H,n)) λih22=>.n))) .n)))
theorem lT{lp:He}(hL:Ea lp)(G:AX):Ox G 54 (OA (MG lp G)):=
 .mk Pz <| mM hL (an:=lD lp G) (λ_ _=>obs (by kernel_rfl)) λc a0 a1 H n k=>by kernel_rfl
def vM:Ta:=λlp G c k=>(.s .n (.s .n (.j (λR=>MH lp G c k (rg R q9)) (.s .n (.b (.l _ (WQ lp G c k) (λR H n=>(rg R q0,rg R q2,rg R q3,rg R q9,rg R q25,rg R q26,rg R q27,H,n)) λih9=>.n))) .n)))
theorem Y8{lp:He}(hL:Ea lp)(G:AX):Ox G 59 (ar4 (Hg lp G)):=
 .mk KL <| sf4 hL (an:=vM lp G) (λ_ _=>obs (by kernel_rfl)) λc a0 a1 a2 a3 H n k=>by kernel_rfl
def yL:Ta:=λlp G c k=>(.s .n (.s .n (.j (λR=>RY lp G c k (rg R q6)) (.b (.l _ (XJ lp G c k) (λR H n=>(rg R q0,rg R q1,rg R q6,H,n)) λih2=>.n)) .n)))
theorem xY{lp:He}(hL:Ea lp)(G:AX):Ox G 67 (OA (Qo lp G)):=
 .mk U6 <| mM hL (an:=yL lp G) (λ_ _=>obs (by kernel_rfl)) λc a0 a1 H n k=>by kernel_rfl
def xw:Ta:=λlp G c k=>(.s .n (.s .n (.j (λR=>RU lp G c k (rg R q7)) (.s .n (.b (.l _ (XZ lp G c k) (λR H n=>(rg R q0,rg R q2,rg R q7,rg R q23,rg R q24,rg R q25,H,n)) λih9=>.n))) .n)))
theorem xG{lp:He}(hL:Ea lp)(G:AX):Ox G 68 (ar3 (QJ lp G)):=
 .mk VF <| sf3 hL (an:=xw lp G) (λ_ _=>obs (by kernel_rfl)) λc a0 a1 a2 H n k=>by kernel_rfl
def AAJ:Ta:=λlp G c k=>.n
theorem zQ{lp:He}(hL:Ea lp)(G:AX):Ox G 71 (OA (SY lp G)):=
 .mk WH <| mM hL (an:=AAJ lp G) (λ_ _=>obs (by kernel_rfl)) λc a0 a1 H n k=>by kernel_rfl
def XL:Ta:=λlp G c k=>.n
theorem XI{lp:He}(hL:Ea lp)(G:AX):Ox G 77 (OA (Gm lp G)):=
 .mk JI <| mM hL (an:=XL lp G) (λ_ _=>obs (by kernel_rfl)) λc a0 a1 H n k=>by kernel_rfl
def AF1:Ta:=λlp G c k=>(.s .n (.j (λR=>Vj lp G c k (rg R q1)) (.s .n (.b (.l _ (gI lp G c k) (λR H n=>(rg R q1,rg R q7,rg R q8,H,n)) λih29=>.n))) (.j (λR=>Zn lp G c k) (.s .n (.b (.l _ (lH lp G c k) (λR H n=>(rg R q1,rg R q32,rg R q33,H,n)) λih7=>.n))) .n)))
theorem AFp{lp:He}(hL:Ea lp)(G:AX):Ox G 78 (mO (aX lp G)):=
 .mk jI <| sf1 hL (an:=AF1 lp G) (λ_ _=>obs (by kernel_rfl)) λc a0 H n k=>by kernel_rfl
def xg:Ta:=λlp G c k=>(.s .n (.j (λR=>SB lp G c k) (.s .n (.b (.l _ (XY lp G c k) (λR H n=>(rg R q0,rg R q9,rg R q10,rg R q11,H,n)) λih3=>(.s .n (.s .n (.j (λR=>Jr lp G c k ih3 (rg R q0) (rg R q9) (rg R q10) (rg R q11)) .n .n)))))) .n))
theorem xu{lp:He}(hL:Ea lp)(G:AX):Ox G 79 (OA (Qc lp G)):=
 .mk VA <| mM hL (an:=xg lp G) (λ_ _=>obs (by kernel_rfl)) λc a0 a1 H n k=>by kernel_rfl
def ACs:Ta:=λlp G c k=>.n
theorem ACI{lp:He}(hL:Ea lp)(G:AX):Ox G 80 (OA (Vm lp G)):=
 .mk Yn <| mM hL (an:=ACs lp G) (λ_ _=>obs (by kernel_rfl)) λc a0 a1 H n k=>by kernel_rfl
def iI:Ta:=λlp G c k=>(.s .n (.s .n (.s .n (.j (λR=>Mc lp G c k (rg R q0) (rg R q9) (rg R q10)) (.s .n (.b (.l _ (Qw lp G c k) (λR H n=>(rg R q0,rg R q1,rg R q2,rg R q7,rg R q9,rg R q10,rg R q11,H,n)) λih15=>.n))) .n))))
theorem iZ{lp:He}(hL:Ea lp)(G:AX):Ox G 82 (ar4 (Kt lp G)):=
 .mk Ov <| sf4 hL (an:=iI lp G) (λ_ _=>obs (by kernel_rfl)) λc a0 a1 a2 a3 H n k=>by kernel_rfl
def lJ:Ta:=λlp G c k=>(.s .n (.s .n (.s (.b (.s .n (.c .n (.s .n (.c .n (.s .n (.c (.s .n (.s .n (.j (λR=>DT lp G c k (rg R q6) (rg R q9)) .n .n))) .n))))))) .n)))
theorem jw{lp:He}(hL:Ea lp)(G:AX):Ox G 83 (ar3 (Lp lp G)):=
 .mk P9 <| sf3 hL (an:=lJ lp G) (λ_ _=>obs (by kernel_rfl)) λc a0 a1 a2 H n k=>by kernel_rfl
def YG:Ta:=λlp G c k=>.n
theorem YJ{lp:He}(hL:Ea lp)(G:AX):Ox G 84 (mO (Gw lp G)):=
 .mk Ja <| sf1 hL (an:=YG lp G) (λ_ _=>obs (by kernel_rfl)) λc a0 H n k=>by kernel_rfl
def AJ9:Ta:=λlp G c k=>(.s .n (.s .n (.j (λR=>dX lp G c k (rg R q2) (rg R q3)) (.s .n (.b (.l _ (qR lp G c k) (λR H n=>(rg R q2,rg R q3,rg R q14,rg R q15,rg R q16,H,n)) λih18=>.n))) .n)))
theorem AId{lp:He}(hL:Ea lp)(G:AX):Ox G 85 (mO (oK lp G)):=
 .mk vJ <| sf1 hL (an:=AJ9 lp G) (λ_ _=>obs (by kernel_rfl)) λc a0 H n k=>by kernel_rfl
def ABk:Ta:=λlp G c k=>.n
theorem ABP{lp:He}(hL:Ea lp)(G:AX):Ox G 86 (mO (Ut lp G)):=
 .mk X7 <| sf1 hL (an:=ABk lp G) (λ_ _=>obs (by kernel_rfl)) λc a0 H n k=>by kernel_rfl
def KZ:Ta:=λlp G c k=>(.s .n (.s .n (.j (λR=>Dn lp G c k) (.s .n (.b (.l _ (FP lp G c k) (λR H n=>(rg R q1,rg R q2,rg R q15,rg R q16,rg R q17,H,n)) λih6=>.n))) .n)))
theorem Ko{lp:He}(hL:Ea lp)(G:AX):Ox G 87 (ar3 (Ci lp G)):=
 .mk Dz <| sf3 hL (an:=KZ lp G) (λ_ _=>obs (by kernel_rfl)) λc a0 a1 a2 H n k=>by kernel_rfl
def ACb:Ta:=λlp G c k=>.n
theorem ACp{lp:He}(hL:Ea lp)(G:AX):Ox G 88 (OA (Vr lp G)):=
 .mk Yf <| mM hL (an:=ACb lp G) (λ_ _=>obs (by kernel_rfl)) λc a0 a1 H n k=>by kernel_rfl
def ABr:Ta:=λlp G c k=>(.s .n (.s .n (.j (λR=>VH lp G c k) (.s .n (.b (.l _ (ZA lp G c k) (λR H n=>(rg R q1,rg R q29,rg R q30,rg R q31,H,n)) λih23=>.n))) .n)))
theorem AB4{lp:He}(hL:Ea lp)(G:AX):Ox G 90 (OA (Vk lp G)):=
 .mk Yj <| mM hL (an:=ABr lp G) (λ_ _=>obs (by kernel_rfl)) λc a0 a1 H n k=>by kernel_rfl
def KU:Ta:=λlp G c k=>(.s .n (.s .n (.j (λR=>Dk lp G c k) (.s .n (.b (.l _ (FD lp G c k) (λR H n=>(rg R q1,rg R q2,rg R q15,rg R q16,rg R q17,H,n)) λih6=>.n))) .n)))
theorem KW{lp:He}(hL:Ea lp)(G:AX):Ox G 91 (ar3 (C9 lp G)):=
 .mk Dx <| sf3 hL (an:=KU lp G) (λ_ _=>obs (by kernel_rfl)) λc a0 a1 a2 H n k=>by kernel_rfl
def wB:Ta:=λlp G c k=>.n
theorem wK{lp:He}(hL:Ea lp)(G:AX):Ox G 92 (ar3 (PN lp G)):=
 .mk UJ <| sf3 hL (an:=wB lp G) (λ_ _=>obs (by kernel_rfl)) λc a0 a1 a2 H n k=>by kernel_rfl
def ng:Ta:=λlp G c k=>(.s .n (.s .n (.s .n (.j (λR=>O0 lp G c k (rg R q0) (rg R q5) (rg R q6)) (.s .n (.b (.l _ (Tv lp G c k) (λR H n=>(rg R q0,rg R q5,rg R q6,rg R q15,rg R q16,rg R q17,H,n)) λih17=>.n))) .n))))
theorem o7{lp:He}(hL:Ea lp)(G:AX):Ox G 93 (OA (Nj lp G)):=
 .mk Ql <| mM hL (an:=ng lp G) (λ_ _=>obs (by kernel_rfl)) λc a0 a1 H n k=>by kernel_rfl
def yE:Ta:=λlp G c k=>(.s .n (.j (λR=>RQ lp G c k (rg R q4)) (.s .n (.b (.l _ (Xa lp G c k) (λR H n=>(rg R q1,rg R q4,rg R q9,rg R q10,rg R q11,H,n)) λih9=>.n))) .n))
theorem yR{lp:He}(hL:Ea lp)(G:AX):Ox G 100 (OA (QT lp G)):=
 .mk VB <| mM hL (an:=yE lp G) (λ_ _=>obs (by kernel_rfl)) λc a0 a1 H n k=>by kernel_rfl
def AAV:Ta:=λlp G c k=>(.s .n (.j (λR=>UC lp G c k (rg R q4)) (.s .n (.b (.l _ (Ya lp G c k) (λR H n=>(rg R q1,rg R q4,rg R q9,rg R q10,rg R q11,H,n)) λih9=>.n))) .n))
theorem zh{lp:He}(hL:Ea lp)(G:AX):Ox G 108 (OA (SN lp G)):=
 .mk Vx <| mM hL (an:=AAV lp G) (λ_ _=>obs (by kernel_rfl)) λc a0 a1 H n k=>by kernel_rfl
def Wp:Ta:=λlp G c k=>.n
theorem Wq{lp:He}(hL:Ea lp)(G:AX):Ox G 110 (OA (Gf lp G)):=
 .mk I5 <| mM hL (an:=Wp lp G) (λ_ _=>obs (by kernel_rfl)) λc a0 a1 H n k=>by kernel_rfl
def ABd:Ta:=λlp G c k=>.n
theorem ABe{lp:He}(hL:Ea lp)(G:AX):Ox G 114 (mO (UZ lp G)):=
 .mk Xf <| sf1 hL (an:=ABd lp G) (λ_ _=>obs (by kernel_rfl)) λc a0 H n k=>by kernel_rfl
def AHZ:Ta:=λlp G c k=>.n
theorem AHS{lp:He}(hL:Ea lp)(G:AX):Ox G 115 (mO (fV lp G)):=
 .mk mX <| sf1 hL (an:=AHZ lp G) (λ_ _=>obs (by kernel_rfl)) λc a0 H n k=>by kernel_rfl
def Ze:Ta:=λlp G c k=>(.s .n (.j (λR=>Jd lp G c k) (.s .n (.b (.l _ (Oi lp G c k) (λR H n=>(rg R q0,rg R q1,rg R q7,rg R q8,H,n)) λih3=>.n))) .n))
theorem ZT{lp:He}(hL:Ea lp)(G:AX):Ox G 122 (OA (IU lp G)):=
 .mk KJ <| mM hL (an:=Ze lp G) (λ_ _=>obs (by kernel_rfl)) λc a0 a1 H n k=>by kernel_rfl
def XB:Ta:=λlp G c k=>(.s .n (.s .n (.j (λR=>Hu lp G c k) (.s .n (.b (.l _ (Lm lp G c k) (λR H n=>(rg R q0,rg R q1,rg R q12,rg R q13,H,n)) λih6=>.n))) .n)))
theorem Wy{lp:He}(hL:Ea lp)(G:AX):Ox G 123 (OA (GV lp G)):=
 .mk I7 <| mM hL (an:=XB lp G) (λ_ _=>obs (by kernel_rfl)) λc a0 a1 H n k=>by kernel_rfl
def jv:Ta:=λlp G c k=>(.s .n (.s .n (.j (λR=>D8 lp G c k (rg R q0) (rg R q6) (rg R q7)) (.s .n (.b (.j (λR=>FB lp G c k (rg R q0) (rg R q1) (rg R q5) (rg R q6) (rg R q7) (rg R q14) (rg R q15)) .n .n))) .n)))
theorem jg{lp:He}(hL:Ea lp)(G:AX):Ox G 124 (ar3 (MI lp G)):=
 .mk Pm <| sf3 hL (an:=jv lp G) (λ_ _=>obs (by kernel_rfl)) λc a0 a1 a2 H n k=>by kernel_rfl
def iQ:Ta:=λlp G c k=>(.s .n (.s .n (.j (λR=>Me lp G c k (rg R q0) (rg R q4) (rg R q6)) (.s .n (.b (.l _ (Q8 lp G c k) (λR H n=>(rg R q0,rg R q3,rg R q4,rg R q6,rg R q13,rg R q14,rg R q15,H,n)) λih19=>(.s .n (.s .n (.j (λR=>EF lp G c k ih19 (rg R q0) (rg R q3) (rg R q4) (rg R q6) (rg R q13) (rg R q14) (rg R q15)) .n .n)))))) .n)))
theorem jE{lp:He}(hL:Ea lp)(G:AX):Ox G 125 (OA (LK lp G)):=
 .mk Ou <| mM hL (an:=iQ lp G) (λ_ _=>obs (by kernel_rfl)) λc a0 a1 H n k=>by kernel_rfl
def oV:Ta:=λlp G c k=>.n
theorem Xo{lp:He}(hL:Ea lp)(G:AX):Ox G 126 (OA (GK lp G)):=
 .mk JH <| mM hL (an:=oV lp G) (λ_ _=>obs (by kernel_rfl)) λc a0 a1 H n k=>by kernel_rfl
def mD:Ta:=λlp G c k=>.n
theorem WZ{lp:He}(hL:Ea lp)(G:AX):Ox G 127 (OA (FU lp G)):=
 .mk Ik <| mM hL (an:=mD lp G) (λ_ _=>obs (by kernel_rfl)) λc a0 a1 H n k=>by kernel_rfl
def ACV:Ta:=λlp G c k=>.n
theorem ACC{lp:He}(hL:Ea lp)(G:AX):Ox G 128 (ar3 (Vo lp G)):=
 .mk Yv <| sf3 hL (an:=ACV lp G) (λ_ _=>obs (by kernel_rfl)) λc a0 a1 a2 H n k=>by kernel_rfl
def jq:Ta:=λlp G c k=>(.s .n (.s .n (.j (λR=>HY lp G c k (rg R q6) (rg R q7)) .n .n)))
theorem ji{lp:He}(hL:Ea lp)(G:AX):Ox G 129 (ar3 (MC lp G)):=
 .mk Po <| sf3 hL (an:=jq lp G) (λ_ _=>obs (by kernel_rfl)) λc a0 a1 a2 H n k=>by kernel_rfl
def ACc:Ta:=λlp G c k=>.n
theorem AB8{lp:He}(hL:Ea lp)(G:AX):Ox G 130 (mO (Vq lp G)):=
 .mk Yp <| sf1 hL (an:=ACc lp G) (λ_ _=>obs (by kernel_rfl)) λc a0 H n k=>by kernel_rfl
def eU:Ta:=λlp G c k=>.n
theorem dn{lp:He}(hL:Ea lp)(G:AX):Ox G 131 (ar3 (J6 lp G)):=
 .mk Ny <| sf3 hL (an:=eU lp G) (λ_ _=>obs (by kernel_rfl)) λc a0 a1 a2 H n k=>by kernel_rfl
def Rh:Ta:=λlp G c k=>.n
theorem SA{lp:He}(hL:Ea lp)(G:AX):Ox G 132 (OA (EY lp G)):=
 .mk GI <| mM hL (an:=Rh lp G) (λ_ _=>obs (by kernel_rfl)) λc a0 a1 H n k=>by kernel_rfl
def yD:Ta:=λlp G c k=>.n
theorem xJ{lp:He}(hL:Ea lp)(G:AX):Ox G 133 (OA (QH lp G)):=
 .mk VJ <| mM hL (an:=yD lp G) (λ_ _=>obs (by kernel_rfl)) λc a0 a1 H n k=>by kernel_rfl
def Qh:Ta:=λlp G c k=>.n
theorem QN{lp:He}(hL:Ea lp)(G:AX):Ox G 134 (OA (EJ lp G)):=
 .mk FV <| mM hL (an:=Qh lp G) (λ_ _=>obs (by kernel_rfl)) λc a0 a1 H n k=>by kernel_rfl
def xQ:Ta:=λlp G c k=>.n
theorem xK{lp:He}(hL:Ea lp)(G:AX):Ox G 135 (OA (QW lp G)):=
 .mk U5 <| mM hL (an:=xQ lp G) (λ_ _=>obs (by kernel_rfl)) λc a0 a1 H n k=>by kernel_rfl
def KQ:Ta:=λlp G c k=>(.s .n (.s .n (.j (λR=>Dl lp G c k) (.s .n (.b (.l _ (FM lp G c k) (λR H n=>(rg R q1,rg R q2,rg R q15,rg R q16,rg R q17,H,n)) λih6=>.n))) .n)))
theorem KP{lp:He}(hL:Ea lp)(G:AX):Ox G 136 (ar3 (Cm lp G)):=
 .mk Dw <| sf3 hL (an:=KQ lp G) (λ_ _=>obs (by kernel_rfl)) λc a0 a1 a2 H n k=>by kernel_rfl
def ABu:Ta:=λlp G c k=>.n
theorem AB3{lp:He}(hL:Ea lp)(G:AX):Ox G 137 (OA (Vp lp G)):=
 .mk Yi <| mM hL (an:=ABu lp G) (λ_ _=>obs (by kernel_rfl)) λc a0 a1 H n k=>by kernel_rfl
def AEA:Ta:=λlp G c k=>.n
theorem AED{lp:He}(hL:Ea lp)(G:AX):Ox G 141 (ar0 (Yw lp G)):=
 .mk bV <| sf0 hL (an:=AEA lp G) (λ_ _=>obs (by kernel_rfl)) λc H n k=>by kernel_rfl
def ABw:Ta:=λlp G c k=>.n
theorem ABt{lp:He}(hL:Ea lp)(G:AX):Ox G 142 (mO (Vl lp G)):=
 .mk Yk <| sf1 hL (an:=ABw lp G) (λ_ _=>obs (by kernel_rfl)) λc a0 H n k=>by kernel_rfl
def AAI:Ta:=λlp G c k=>.n
theorem zA{lp:He}(hL:Ea lp)(G:AX):Ox G 143 (mO (TF lp G)):=
 .mk V6 <| sf1 hL (an:=AAI lp G) (λ_ _=>obs (by kernel_rfl)) λc a0 H n k=>by kernel_rfl
def xO:Ta:=λlp G c k=>(.s .n (.j (λR=>Rl lp G c k (rg R q4)) (.s .n (.b (.l _ (X3 lp G c k) (λR H n=>(rg R q1,rg R q4,rg R q11,rg R q12,rg R q13,H,n)) λih9=>.n))) .n))
theorem xP{lp:He}(hL:Ea lp)(G:AX):Ox G 145 (OA (Qs lp G)):=
 .mk VG <| mM hL (an:=xO lp G) (λ_ _=>obs (by kernel_rfl)) λc a0 a1 H n k=>by kernel_rfl
def qW:Ta:=λlp G c k=>(.s .n (.j (λR=>LU lp G c k (rg R q0)) .n .n))
theorem rQ{lp:He}(hL:Ea lp)(G:AX):Ox G 146 (ar4 (OT lp G)):=
 .mk SE <| sf4 hL (an:=qW lp G) (λ_ _=>obs (by kernel_rfl)) λc a0 a1 a2 a3 H n k=>by kernel_rfl
def qm:Ta:=λlp G c k=>(.s .n (.s .n (.s .n (.s .n (.j (λR=>IC lp G c k (rg R q0) (rg R q3) (rg R q4)) (.s .n (.b (.l _ (JE lp G c k) (λR H n=>(rg R q0,rg R q3,rg R q4,rg R q39,rg R q40,rg R q41,H,n)) λih130=>.n))) (.s .n (.s .n (.j (λR=>CP lp G c k (rg R q3) (rg R q4)) (.s .n (.b (.s .n (.c .n (.s .n (.c .n (.j (λR=>Dq lp G c k (rg R q0) (rg R q3) (rg R q4) (rg R q7) (rg R q66) (rg R AZy)) .n .n))))))) .n))))))))
theorem qj{lp:He}(hL:Ea lp)(G:AX):Ox G 147 (OA (Ol lp G)):=
 .mk RI <| mM hL (an:=qm lp G) (λ_ _=>obs (by kernel_rfl)) λc a0 a1 H n k=>by kernel_rfl
def eF:Ta:=λlp G c k=>.n
theorem fA{lp:He}(hL:Ea lp)(G:AX):Ox G 174 (OA (Jy lp G)):=
 .mk N9 <| mM hL (an:=eF lp G) (λ_ _=>obs (by kernel_rfl)) λc a0 a1 H n k=>by kernel_rfl
def pW:Ta:=λlp G c k=>.n
theorem nS{lp:He}(hL:Ea lp)(G:AX):Ox G 175 (mO (Nh lp G)):=
 .mk QX <| sf1 hL (an:=pW lp G) (λ_ _=>obs (by kernel_rfl)) λc a0 H n k=>by kernel_rfl
def iV:Ta:=λlp G c k=>.n
theorem iy{lp:He}(hL:Ea lp)(G:AX):Ox G 176 (OA (Kv lp G)):=
 .mk Oy <| mM hL (an:=iV lp G) (λ_ _=>obs (by kernel_rfl)) λc a0 a1 H n k=>by kernel_rfl
def dh:Ta:=λlp G c k=>.n
theorem eP{lp:He}(hL:Ea lp)(G:AX):Ox G 177 (ar3 (J9 lp G)):=
 .mk OB <| sf3 hL (an:=dh lp G) (λ_ _=>obs (by kernel_rfl)) λc a0 a1 a2 H n k=>by kernel_rfl
def YI:Ta:=λlp G c k=>(.s .n (.s .n (.j (λR=>Iw lp G c k (rg R q0) (rg R q1) (rg R q2) (rg R q6) (rg R q7)) (.b (.l _ (MS lp G c k) (λR H n=>(rg R q0,rg R q1,rg R q2,rg R q6,rg R q7,rg R q8,H,n)) λih18=>.n)) (.s .n (.b (.l _ (NG lp G c k) (λR H n=>(rg R q0,rg R q1,rg R q2,rg R q6,H,n)) λih3=>(.s .n (.b (.s .n (.j (λR=>Nq lp G c k ih3 (rg R q0) (rg R q1) (rg R q2) (rg R q6) (rg R q7)) (.b (.l _ (MV lp G c k ih3) (λR H n=>(rg R q0,rg R q1,rg R q2,rg R q6,rg R q7,rg R q8,H,n)) λih12=>.n)) (.j (λR=>Iy lp G c k ih3 (rg R q0) (rg R q1) (rg R q2) (rg R q6)) .n .n)))))))))))
theorem YE{lp:He}(hL:Ea lp)(G:AX):Ox G 178 (ar3 (Gv lp G)):=
 .mk Jb <| sf3 hL (an:=YI lp G) (λ_ _=>obs (by kernel_rfl)) λc a0 a1 a2 H n k=>by kernel_rfl
def XH:Ta:=λlp G c k=>(.s .n (.s .n (.j (λR=>IX lp G c k (rg R q0) (rg R q1) (rg R q2) (rg R q6) (rg R q7)) (.b (.l _ (Lc lp G c k) (λR H n=>(rg R q0,rg R q1,rg R q2,rg R q6,rg R q7,rg R q8,H,n)) λih18=>.n)) (.s .n (.b (.l _ (MW lp G c k) (λR H n=>(rg R q0,rg R q1,rg R q2,rg R q6,H,n)) λih3=>(.s .n (.b (.s .n (.j (λR=>NM lp G c k ih3 (rg R q0) (rg R q1) (rg R q2) (rg R q6) (rg R q7)) (.b (.l _ (LZ lp G c k ih3) (λR H n=>(rg R q0,rg R q1,rg R q2,rg R q6,rg R q7,rg R q8,H,n)) λih12=>.n)) (.j (λR=>IW lp G c k ih3 (rg R q0) (rg R q1) (rg R q2) (rg R q6)) .n .n)))))))))))
theorem Xy{lp:He}(hL:Ea lp)(G:AX):Ox G 179 (ar3 (Gl lp G)):=
 .mk JD <| sf3 hL (an:=XH lp G) (λ_ _=>obs (by kernel_rfl)) λc a0 a1 a2 H n k=>by kernel_rfl
def zk:Ta:=λlp G c k=>.n
theorem AAQ{lp:He}(hL:Ea lp)(G:AX):Ox G 180 (ar3 (Sl lp G)):=
 .mk WI <| sf3 hL (an:=zk lp G) (λ_ _=>obs (by kernel_rfl)) λc a0 a1 a2 H n k=>by kernel_rfl
def Wj:Ta:=λlp G c k=>.n
theorem W9{lp:He}(hL:Ea lp)(G:AX):Ox G 182 (mO (GX lp G)):=
 .mk Iq <| sf1 hL (an:=Wj lp G) (λ_ _=>obs (by kernel_rfl)) λc a0 H n k=>by kernel_rfl
def sO:Ta:=λlp G c k=>(.s .n (.s .n (.j (λR=>BM lp G c k (rg R q3) (rg R q4)) (.s .n (.b (.s .n (.c .n (.j (λR=>IG lp G c k (rg R q0) (rg R q3) (rg R q4) (rg R q12) (rg R q19)) .n (.c .n (.s .n (.c .n (.s .n (.c .n (.s .n (.c .n (.j (λR=>EI lp G c k (rg R q0) (rg R q3) (rg R q4) (rg R q12) (rg R q65)) .n (.c .n (.s .n (.c .n (.s .n (.c (.j (λR=>J3 lp G c k (rg R q3) (rg R q4)) .n .n) (.s .n (.c (.j (λR=>J7 lp G c k (rg R q3) (rg R q4)) .n .n) .n)))))))))))))))))))) .n)))
theorem sJ{lp:He}(hL:Ea lp)(G:AX):Ox G 183 (OA (OI lp G)):=
 .mk RN <| mM hL (an:=sO lp G) (λ_ _=>obs (by kernel_rfl)) λc a0 a1 H n k=>by kernel_rfl
def mV:Ta:=λlp G c k=>(.s .n (.j (λR=>Vh lp G c k) (.s .n (.b (.l _ (Uz lp G c k) (λR H n=>(rg R q0,rg R q5,rg R q9,rg R q10,rg R q11,H,n)) λih4=>.n))) .n))
theorem oP{lp:He}(hL:Ea lp)(G:AX):Ox G 184 (ar3 (NQ lp G)):=
 .mk QU <| sf3 hL (an:=mV lp G) (λ_ _=>obs (by kernel_rfl)) λc a0 a1 a2 H n k=>by kernel_rfl
def UQ:Ta:=λlp G c k=>(.s .n (.b (.l _ (JU lp G c k) (λR H n=>(rg R q0,rg R q1,rg R q2,rg R q3,rg R q8,H,n)) λih2=>(.s .n (.j (λR=>EU lp G c k ih2 (rg R q0) (rg R q1) (rg R q2) (rg R q3) (rg R q8)) (.b (.s .n (.b (.l _ (JW lp G c k ih2) (λR H n=>(rg R q0,rg R q1,rg R q2,rg R q3,rg R q8,rg R q9,H,n)) λih6=>.n)))) .n)))))
theorem UU{lp:He}(hL:Ea lp)(G:AX):Ox G 214 (ar4 (Ew lp G)):=
 .mk Gq <| sf4 hL (an:=UQ lp G) (λ_ _=>obs (by kernel_rfl)) λc a0 a1 a2 a3 H n k=>by kernel_rfl
def TM:Ta:=λlp G c k=>(.s .n (.b (.l _ (JO lp G c k) (λR H n=>(rg R q0,rg R q1,rg R q2,rg R q3,rg R q8,H,n)) λih2=>(.s .n (.j (λR=>EM lp G c k ih2 (rg R q0) (rg R q1) (rg R q2) (rg R q3) (rg R q8)) (.b (.s .n (.b (.l _ (JF lp G c k ih2) (λR H n=>(rg R q0,rg R q1,rg R q2,rg R q3,rg R q8,rg R q9,H,n)) λih6=>.n)))) .n)))))
theorem TK{lp:He}(hL:Ea lp)(G:AX):Ox G 216 (ar4 (Ed lp G)):=
 .mk Gg <| sf4 hL (an:=TM lp G) (λ_ _=>obs (by kernel_rfl)) λc a0 a1 a2 a3 H n k=>by kernel_rfl
def xU:Ta:=λlp G c k=>.n
theorem yG{lp:He}(hL:Ea lp)(G:AX):Ox G 218 (ar3 (Qi lp G)):=
 .mk U2 <| sf3 hL (an:=xU lp G) (λ_ _=>obs (by kernel_rfl)) λc a0 a1 a2 H n k=>by kernel_rfl
def rU:Ta:=λlp G c k=>(.s .n (.s .n (.j (λR=>P5 lp G c k (rg R q0)) (.s .n (.b (.l _ (Ux lp G c k) (λR H n=>(rg R q0,rg R q1,rg R q18,rg R q19,rg R q20,H,n)) λih18=>.n))) .n)))
theorem rM{lp:He}(hL:Ea lp)(G:AX):Ox G 219 (OA (Oh lp G)):=
 .mk Rx <| mM hL (an:=rU lp G) (λ_ _=>obs (by kernel_rfl)) λc a0 a1 H n k=>by kernel_rfl
def jr:Ta:=λlp G c k=>(.s .n (.j (λR=>EZ lp G c k (rg R q0) (rg R q1) (rg R q4) (rg R q5)) .n (.s .n (.s .n (.s .n (.j (λR=>JJ lp G c k (rg R q1) (rg R q9) (rg R q10)) .n .n))))))
theorem lW{lp:He}(hL:Ea lp)(G:AX):Ox G 220 (OA (MF lp G)):=
 .mk Py <| mM hL (an:=jr lp G) (λ_ _=>obs (by kernel_rfl)) λc a0 a1 H n k=>by kernel_rfl
def sK:Ta:=λlp G c k=>(.b (.s .n (.c .n (.s .n (.c .n (.s .n (.c (.s .n (.j (λR=>F8 lp G c k (rg R q1)) .n .n)) .n)))))))
theorem Jq{lp:He}(hL:Ea lp)(G:AX):Ox G 221 (OA (Bq lp G)):=
 .mk Df <| mM hL (an:=sK lp G) (λ_ _=>obs (by kernel_rfl)) λc a0 a1 H n k=>by kernel_rfl
def rZ:Ta:=λlp G c k=>(.s .n (.s .n (.s .n (.b (.l _ (Uy lp G c k) (λR H n=>(rg R q0,rg R q7,rg R q21,rg R q22,rg R q23,H,n)) λih13=>.n)))))
theorem qg{lp:He}(hL:Ea lp)(G:AX):Ox G 248 (ar4 (OV lp G)):=
 .mk SC <| sf4 hL (an:=rZ lp G) (λ_ _=>obs (by kernel_rfl)) λc a0 a1 a2 a3 H n k=>by kernel_rfl
end Go.RL
