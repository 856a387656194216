/- Part of a proof; nothing is assumed. -/
import Derived.Test.YtmbhlmocojopaaaGreatDoorPlain
import Derived.Test.YtmbhlmocojopaaaGreatDoorCode
import Derived.Test.YtmbhlmocojopaaaGreatDoorEngE
set_option linter.unusedVariables false
set_option linter.unusedSimpArgs false
noncomputable section
namespace Go.RL
open Go.DW
set_option maxRecDepth 100000
abbrev Ta:=He->AX->BG->KV->An
inductive Oz(G:AX)(n:Nat)(s:SF):Prop where
 |mk {af:AF} (h:T.get F n=some af) (o:AHN G af s):Oz G n s
def nO:Ta:=λlp G c k=>(.s .n (.s .n (.s .n (.s .n (.s .n (.s .n (.j (λR=>OC lp G c k) (.s .n (.b (.l _ (Mc lp G c k) (λR H n=>(rg R q6,rg R q7,rg R q43,rg R q44,rg R q45,H,n)) λih26=>.n))) .n)))))))
theorem nP{lp:He}(hL:Eb lp)(G:AX):Oz G 5 (N7 (NY lp G)):=
 .mk Qd <| mP hL (an:=nO lp G) (λ_ _=>obs (by kernel_rfl)) λc a0 a1 H n k=>by kernel_rfl
def tN:Ta:=λlp G c k=>(.s .n (.s .n (.s .n (.s .n (.s .n (.s .n (.s .n (.j (λR=>Ii lp G c k (rg R q3) (rg R q4) (rg R q5)) .n (.j (λR=>Ib lp G c k (rg R q3) (rg R q4) (rg R q5)) .n .n)))))))))
theorem vg{lp:He}(hL:Eb lp)(G:AX):Oz G 14 (mO (PW lp G)):=
 .mk UL <| sf1 hL (an:=tN lp G) (λ_ _=>obs (by kernel_rfl)) λc a0 H n k=>by kernel_rfl
def zB:Ta:=λlp G c k=>(.s .n (.s .n (.j (λR=>Tj lp G c k (rg R q3)) (.s .n (.b (.l _ (YP lp G c k) (λR H n=>(rg R q3,rg R q7,rg R q8,rg R q9,H,n)) λih5=>.n))) .n)))
theorem zK{lp:He}(hL:Eb lp)(G:AX):Oz G 16 (mO (SV lp G)):=
 .mk WB <| sf1 hL (an:=zB lp G) (λ_ _=>obs (by kernel_rfl)) λc a0 H n k=>by kernel_rfl
def ABS:Ta:=λlp G c k=>.n
theorem ABO{lp:He}(hL:Eb lp)(G:AX):Oz G 17 (N7 (Uc lp G)):=
 .mk Xi <| mP hL (an:=ABS lp G) (λ_ _=>obs (by kernel_rfl)) λc a0 a1 H n k=>by kernel_rfl
def qo:Ta:=λlp G c k=>(.s .n (.s .n (.j (λR=>Oo lp G c k) (.s .n (.b (.l _ (Uz lp G c k) (λR H n=>(rg R q26,rg R q27,rg R q28,H,n)) λih24=>.n))) .n)))
theorem rJ{lp:He}(hL:Eb lp)(G:AX):Oz G 19 (mO (Oh lp G)):=
 .mk RP <| sf1 hL (an:=qo lp G) (λ_ _=>obs (by kernel_rfl)) λc a0 H n k=>by kernel_rfl
def AEh:Ta:=λlp G c k=>(.s .n (.s .n (.s .n (.s .n (.s .n (.s .n (.j (λR=>X6 lp G c k (rg R q3) (rg R q4) (rg R q5) (rg R q9)) (.s .n (.b (.l _ (dA lp G c k) (λR H n=>(rg R q3,rg R q4,rg R q5,rg R q9,rg R q52,rg R q53,rg R q54,H,n)) λih61=>.n))) .n)))))))
theorem AFO{lp:He}(hL:Eb lp)(G:AX):Oz G 20 (N7 (Yy lp G)):=
 .mk dN <| mP hL (an:=AEh lp G) (λ_ _=>obs (by kernel_rfl)) λc a0 a1 H n k=>by kernel_rfl
def ALu:Ta:=λlp G c k=>.n
theorem AKj{lp:He}(hL:Eb lp)(G:AX):Oz G 30 (ar0 (wQ lp G)):=
 .mk zx <| sf0 hL (an:=ALu lp G) (λ_ _=>obs (by kernel_rfl)) λc H n k=>by kernel_rfl
def AJL:Ta:=λlp G c k=>(.s .n (.s .n (.j (λR=>iP lp G c k (rg R q3)) (.s .n (.b (.l _ (uU lp G c k) (λR H n=>(rg R q3,rg R q10,rg R q11,rg R q12,H,n)) λih7=>.n))) .n)))
theorem AKI{lp:He}(hL:Eb lp)(G:AX):Oz G 36 (mO (nH lp G)):=
 .mk tV <| sf1 hL (an:=AJL lp G) (λ_ _=>obs (by kernel_rfl)) λc a0 H n k=>by kernel_rfl
def xM:Ta:=λlp G c k=>(.s .n (.s .n (.s .n (.s .n (.s .n (.s .n (.j (λR=>MC lp G c k (rg R q0) (rg R q5)) (.s .n (.b (.l _ (Pn lp G c k) (λR H n=>(rg R q0,rg R q5,rg R q67,rg R q68,rg R q69,H,n)) λih74=>.n))) (.j (λR=>Qo lp G c k) (.s .n (.b (.l _ (WV lp G c k) (λR H n=>(rg R q0,rg R q5,rg R q92,rg R q93,rg R q94,H,n)) λih37=>.n))) .n))))))))
theorem xk{lp:He}(hL:Eb lp)(G:AX):Oz G 37 (N7 (QI lp G)):=
 .mk U7 <| mP hL (an:=xM lp G) (λ_ _=>obs (by kernel_rfl)) λc a0 a1 H n k=>by kernel_rfl
def ANP:Ta:=λlp G c k=>.n
theorem AN0{lp:He}(hL:Eb lp)(G:AX):Oz G 40 (mO (AAz lp G)):=
 .mk ACT <| sf1 hL (an:=ANP lp G) (λ_ _=>obs (by kernel_rfl)) λc a0 H n k=>by kernel_rfl
def ABd:Ta:=λlp G c k=>.n
theorem ABE{lp:He}(hL:Eb lp)(G:AX):Oz G 41 (ar0 (Ud lp G)):=
 .mk Xh <| sf0 hL (an:=ABd lp G) (λ_ _=>obs (by kernel_rfl)) λc H n k=>by kernel_rfl
def eU:Ta:=λlp G c k=>(.s .n (.s .n (.s .n (.j (λR=>Fa lp G c k (rg R q0) (rg R q5) (rg R q10) (rg R q12) (rg R q13)) .n (.s .n (.j (λR=>IQ lp G c k (rg R q0) (rg R q10) (rg R q12) (rg R q13)) (.s .n (.b (.l _ (QE lp G c k) (λR H n=>(rg R q0,rg R q10,rg R q12,rg R q13,rg R q32,rg R q33,rg R q34,H,n)) λih33=>.n))) .n))))))
theorem eH{lp:He}(hL:Eb lp)(G:AX):Oz G 42 (ar6 (Jy lp G)):=
 .mk Nw <| sf6 hL (an:=eU lp G) (λ_ _=>obs (by kernel_rfl)) λc a0 a1 a2 a3 a4 a5 H n k=>by kernel_rfl
def AI6:Ta:=λlp G c k=>.n
theorem AJc{lp:He}(hL:Eb lp)(G:AX):Oz G 43 (ar0 (nI lp G)):=
 .mk uD <| sf0 hL (an:=AI6 lp G) (λ_ _=>obs (by kernel_rfl)) λc H n k=>by kernel_rfl
def lX:Ta:=λlp G c k=>.n
theorem jc{lp:He}(hL:Eb lp)(G:AX):Oz G 44 (N7 (MK lp G)):=
 .mk PZ <| mP hL (an:=lX lp G) (λ_ _=>obs (by kernel_rfl)) λc a0 a1 H n k=>by kernel_rfl
def AKh:Ta:=λlp G c k=>(.s .n (.s .n (.j (λR=>Y0 lp G c k (rg R q2) (rg R q3)) (.s .n (.b (.l _ (tJ lp G c k) (λR H n=>(rg R q2,rg R q3,rg R q15,rg R q16,rg R q17,H,n)) λih20=>.n))) .n)))
theorem ALA{lp:He}(hL:Eb lp)(G:AX):Oz G 45 (mO (wV lp G)):=
 .mk AAO <| sf1 hL (an:=AKh lp G) (λ_ _=>obs (by kernel_rfl)) λc a0 H n k=>by kernel_rfl
def YH:Ta:=λlp G c k=>(.s .n (.s .n (.j (λR=>Fz lp G c k) (.s .n (.b (.l _ (ND lp G c k) (λR H n=>(rg R q0,rg R q1,rg R q12,rg R q13,H,n)) λih6=>.n))) .n)))
theorem O8{lp:He}(hL:Eb lp)(G:AX):Oz G 46 (N7 (Dj lp G)):=
 .mk Ey <| mP hL (an:=YH lp G) (λ_ _=>obs (by kernel_rfl)) λc a0 a1 H n k=>by kernel_rfl
def I9:Ta:=λlp G c k=>(.s .n (.s .n (.j (λR=>DJ lp G c k) (.s .n (.b (.l _ (EO lp G c k) (λR H n=>(rg R q1,rg R q2,rg R q15,rg R q16,rg R q17,H,n)) λih6=>.n))) .n)))
theorem I8{lp:He}(hL:Eb lp)(G:AX):Oz G 47 (ar3 (CB lp G)):=
 .mk DR <| sf3 hL (an:=I9 lp G) (λ_ _=>obs (by kernel_rfl)) λc a0 a1 a2 H n k=>by kernel_rfl
def zJ:Ta:=λlp G c k=>.n
theorem zO{lp:He}(hL:Eb lp)(G:AX):Oz G 48 (N7 (TB lp G)):=
 .mk V4 <| mP hL (an:=zJ lp G) (λ_ _=>obs (by kernel_rfl)) λc a0 a1 H n k=>by kernel_rfl
def rF:Ta:=λlp G c k=>(.s .n (.s .n (.j (λR=>Pv lp G c k) (.s .n (.b (.l _ (Vf lp G c k) (λR H n=>(rg R q1,rg R q16,rg R q17,rg R q18,H,n)) λih8=>(.s .n (.s .n (.j (λR=>O3 lp G c k ih8 (rg R q1) (rg R q16) (rg R q17) (rg R q18)) (.b (.s .n (.s .n (.s .n (.b (.l _ (Uw lp G c k ih8) (λR H n=>(rg R q1,rg R q16,rg R q17,rg R q18,rg R q56,rg R q57,rg R q58,H,n)) λih48=>.n)))))) .n)))))) .n)))
theorem qj{lp:He}(hL:Eb lp)(G:AX):Oz G 50 (N7 (OO lp G)):=
 .mk RY <| mP hL (an:=rF lp G) (λ_ _=>obs (by kernel_rfl)) λc a0 a1 H n k=>by kernel_rfl
def zk:Ta:=λlp G c k=>.n
theorem zM{lp:He}(hL:Eb lp)(G:AX):Oz G 51 (N7 (Si lp G)):=
 .mk Vu <| mP hL (an:=zk lp G) (λ_ _=>obs (by kernel_rfl)) λc a0 a1 H n k=>by kernel_rfl
def ABc:Ta:=λlp G c k=>.n
theorem AAx{lp:He}(hL:Eb lp)(G:AX):Oz G 52 (N7 (UY lp G)):=
 .mk Xm <| mP hL (an:=ABc lp G) (λ_ _=>obs (by kernel_rfl)) λc a0 a1 H n k=>by kernel_rfl
def UZ:Ta:=λlp G c k=>.n
theorem Uo{lp:He}(hL:Eb lp)(G:AX):Oz G 53 (mO (E8 lp G)):=
 .mk Gy <| sf1 hL (an:=UZ lp G) (λ_ _=>obs (by kernel_rfl)) λc a0 H n k=>by kernel_rfl
def jr:Ta:=λlp G c k=>(.s .n (.s .n (.j (λR=>NH lp G c k (rg R q0) (rg R q3) (rg R q4)) (.s .n (.b (.l _ (SN lp G c k) (λR H n=>(rg R q0,rg R q3,rg R q4,rg R q16,rg R q17,rg R q18,H,n)) λih22=>.n))) .n)))
theorem kQ{lp:He}(hL:Eb lp)(G:AX):Oz G 54 (N7 (Lr lp G)):=
 .mk Py <| mP hL (an:=jr lp G) (λ_ _=>obs (by kernel_rfl)) λc a0 a1 H n k=>by kernel_rfl
def tX:Ta:=λlp G c k=>(.s .n (.s .n (.j (λR=>MG lp G c k (rg R q9)) (.s .n (.b (.l _ (WZ lp G c k) (λR H n=>(rg R q0,rg R q2,rg R q3,rg R q9,rg R q25,rg R q26,rg R q27,H,n)) λih9=>.n))) .n)))
theorem Y9{lp:He}(hL:Eb lp)(G:AX):Oz G 59 (ar4 (Hg lp G)):=
 .mk KN <| sf4 hL (an:=tX lp G) (λ_ _=>obs (by kernel_rfl)) λc a0 a1 a2 a3 H n k=>by kernel_rfl
def yJ:Ta:=λlp G c k=>(.s .n (.s .n (.j (λR=>Rf lp G c k (rg R q6)) (.b (.l _ (X0 lp G c k) (λR H n=>(rg R q0,rg R q1,rg R q6,H,n)) λih2=>.n)) .n)))
theorem xO{lp:He}(hL:Eb lp)(G:AX):Oz G 67 (N7 (QS lp G)):=
 .mk U5 <| mP hL (an:=yJ lp G) (λ_ _=>obs (by kernel_rfl)) λc a0 a1 H n k=>by kernel_rfl
def xB:Ta:=λlp G c k=>(.s .n (.s .n (.j (λR=>RI lp G c k (rg R q7)) (.s .n (.b (.l _ (Xw lp G c k) (λR H n=>(rg R q0,rg R q2,rg R q7,rg R q23,rg R q24,rg R q25,H,n)) λih9=>.n))) .n)))
theorem yA{lp:He}(hL:Eb lp)(G:AX):Oz G 68 (ar3 (QW lp G)):=
 .mk VF <| sf3 hL (an:=xB lp G) (λ_ _=>obs (by kernel_rfl)) λc a0 a1 a2 H n k=>by kernel_rfl
def AAN:Ta:=λlp G c k=>.n
theorem zV{lp:He}(hL:Eb lp)(G:AX):Oz G 71 (N7 (TD lp G)):=
 .mk WH <| mP hL (an:=AAN lp G) (λ_ _=>obs (by kernel_rfl)) λc a0 a1 H n k=>by kernel_rfl
def Xv:Ta:=λlp G c k=>.n
theorem XT{lp:He}(hL:Eb lp)(G:AX):Oz G 77 (N7 (Gl lp G)):=
 .mk JE <| mP hL (an:=Xv lp G) (λ_ _=>obs (by kernel_rfl)) λc a0 a1 H n k=>by kernel_rfl
def AF8:Ta:=λlp G c k=>(.s .n (.j (λR=>Vo lp G c k (rg R q1)) (.s .n (.b (.l _ (fU lp G c k) (λR H n=>(rg R q1,rg R q7,rg R q8,H,n)) λih29=>.n))) (.j (λR=>Zl lp G c k) (.s .n (.b (.l _ (jg lp G c k) (λR H n=>(rg R q1,rg R q32,rg R q33,H,n)) λih7=>.n))) .n)))
theorem AFq{lp:He}(hL:Eb lp)(G:AX):Oz G 78 (mO (aY lp G)):=
 .mk iO <| sf1 hL (an:=AF8 lp G) (λ_ _=>obs (by kernel_rfl)) λc a0 H n k=>by kernel_rfl
def xZ:Ta:=λlp G c k=>(.s .n (.j (λR=>Ri lp G c k) (.s .n (.b (.l _ (Xp lp G c k) (λR H n=>(rg R q0,rg R q9,rg R q10,rg R q11,H,n)) λih3=>(.s .n (.s .n (.j (λR=>Jt lp G c k ih3 (rg R q0) (rg R q9) (rg R q10) (rg R q11)) .n .n)))))) .n))
theorem xP{lp:He}(hL:Eb lp)(G:AX):Oz G 79 (N7 (QO lp G)):=
 .mk U8 <| mP hL (an:=xZ lp G) (λ_ _=>obs (by kernel_rfl)) λc a0 a1 H n k=>by kernel_rfl
def ACC:Ta:=λlp G c k=>.n
theorem ACY{lp:He}(hL:Eb lp)(G:AX):Oz G 80 (N7 (Vr lp G)):=
 .mk Yn <| mP hL (an:=ACC lp G) (λ_ _=>obs (by kernel_rfl)) λc a0 a1 H n k=>by kernel_rfl
def jG:Ta:=λlp G c k=>(.s .n (.s .n (.s .n (.j (λR=>Md lp G c k (rg R q0) (rg R q9) (rg R q10)) (.s .n (.b (.l _ (Qw lp G c k) (λR H n=>(rg R q0,rg R q1,rg R q2,rg R q7,rg R q9,rg R q10,rg R q11,H,n)) λih15=>.n))) .n))))
theorem jV{lp:He}(hL:Eb lp)(G:AX):Oz G 82 (ar4 (LK lp G)):=
 .mk Ov <| sf4 hL (an:=jG lp G) (λ_ _=>obs (by kernel_rfl)) λc a0 a1 a2 a3 H n k=>by kernel_rfl
def jk:Ta:=λlp G c k=>(.s .n (.s .n (.s (.b (.s .n (.c .n (.s .n (.c .n (.s .n (.c (.s .n (.s .n (.j (λR=>DU lp G c k (rg R q6) (rg R q9)) .n .n))) .n))))))) .n)))
theorem ku{lp:He}(hL:Eb lp)(G:AX):Oz G 83 (ar3 (Ls lp G)):=
 .mk Ph <| sf3 hL (an:=jk lp G) (λ_ _=>obs (by kernel_rfl)) λc a0 a1 a2 H n k=>by kernel_rfl
def YB:Ta:=λlp G c k=>.n
theorem YC{lp:He}(hL:Eb lp)(G:AX):Oz G 84 (mO (G5 lp G)):=
 .mk JZ <| sf1 hL (an:=YB lp G) (λ_ _=>obs (by kernel_rfl)) λc a0 H n k=>by kernel_rfl
def AJn:Ta:=λlp G c k=>(.s .n (.s .n (.j (λR=>dF lp G c k (rg R q2) (rg R q3)) (.s .n (.b (.l _ (qE lp G c k) (λR H n=>(rg R q2,rg R q3,rg R q14,rg R q15,rg R q16,H,n)) λih18=>.n))) .n)))
theorem AKJ{lp:He}(hL:Eb lp)(G:AX):Oz G 85 (mO (nY lp G)):=
 .mk wF <| sf1 hL (an:=AJn lp G) (λ_ _=>obs (by kernel_rfl)) λc a0 H n k=>by kernel_rfl
def AAo:Ta:=λlp G c k=>.n
theorem AA9{lp:He}(hL:Eb lp)(G:AX):Oz G 86 (mO (Uk lp G)):=
 .mk Xr <| sf1 hL (an:=AAo lp G) (λ_ _=>obs (by kernel_rfl)) λc a0 H n k=>by kernel_rfl
def KU:Ta:=λlp G c k=>(.s .n (.s .n (.j (λR=>Dn lp G c k) (.s .n (.b (.l _ (FQ lp G c k) (λR H n=>(rg R q1,rg R q2,rg R q15,rg R q16,rg R q17,H,n)) λih6=>.n))) .n)))
theorem Ko{lp:He}(hL:Eb lp)(G:AX):Oz G 87 (ar3 (Cm lp G)):=
 .mk Dy <| sf3 hL (an:=KU lp G) (λ_ _=>obs (by kernel_rfl)) λc a0 a1 a2 H n k=>by kernel_rfl
def ABs:Ta:=λlp G c k=>.n
theorem ACg{lp:He}(hL:Eb lp)(G:AX):Oz G 88 (N7 (Vm lp G)):=
 .mk Ye <| mP hL (an:=ABs lp G) (λ_ _=>obs (by kernel_rfl)) λc a0 a1 H n k=>by kernel_rfl
def ACn:Ta:=λlp G c k=>(.s .n (.s .n (.j (λR=>VJ lp G c k) (.s .n (.b (.l _ (ZJ lp G c k) (λR H n=>(rg R q1,rg R q29,rg R q30,rg R q31,H,n)) λih23=>.n))) .n)))
theorem ACD{lp:He}(hL:Eb lp)(G:AX):Oz G 90 (N7 (Vl lp G)):=
 .mk Yg <| mP hL (an:=ACn lp G) (λ_ _=>obs (by kernel_rfl)) λc a0 a1 H n k=>by kernel_rfl
def KY:Ta:=λlp G c k=>(.s .n (.s .n (.j (λR=>Dl lp G c k) (.s .n (.b (.l _ (FN lp G c k) (λR H n=>(rg R q1,rg R q2,rg R q15,rg R q16,rg R q17,H,n)) λih6=>.n))) .n)))
theorem KT{lp:He}(hL:Eb lp)(G:AX):Oz G 91 (ar3 (C9 lp G)):=
 .mk Dz <| sf3 hL (an:=KY lp G) (λ_ _=>obs (by kernel_rfl)) λc a0 a1 a2 H n k=>by kernel_rfl
def wH:Ta:=λlp G c k=>.n
theorem tu{lp:He}(hL:Eb lp)(G:AX):Oz G 92 (ar3 (PK lp G)):=
 .mk TT <| sf3 hL (an:=wH lp G) (λ_ _=>obs (by kernel_rfl)) λc a0 a1 a2 H n k=>by kernel_rfl
def mg:Ta:=λlp G c k=>(.s .n (.s .n (.s .n (.j (λR=>Ou lp G c k (rg R q0) (rg R q5) (rg R q6)) (.s .n (.b (.l _ (UO lp G c k) (λR H n=>(rg R q0,rg R q5,rg R q6,rg R q15,rg R q16,rg R q17,H,n)) λih17=>.n))) .n))))
theorem oO{lp:He}(hL:Eb lp)(G:AX):Oz G 93 (N7 (Nb lp G)):=
 .mk Qm <| mP hL (an:=mg lp G) (λ_ _=>obs (by kernel_rfl)) λc a0 a1 H n k=>by kernel_rfl
def xQ:Ta:=λlp G c k=>(.s .n (.j (λR=>Rh lp G c k (rg R q4)) (.s .n (.b (.l _ (Xu lp G c k) (λR H n=>(rg R q1,rg R q4,rg R q9,rg R q10,rg R q11,H,n)) λih9=>.n))) .n))
theorem yI{lp:He}(hL:Eb lp)(G:AX):Oz G 100 (N7 (Ql lp G)):=
 .mk VH <| mP hL (an:=xQ lp G) (λ_ _=>obs (by kernel_rfl)) λc a0 a1 H n k=>by kernel_rfl
def zW:Ta:=λlp G c k=>(.s .n (.j (λR=>TU lp G c k (rg R q4)) (.s .n (.b (.l _ (YR lp G c k) (λR H n=>(rg R q1,rg R q4,rg R q9,rg R q10,rg R q11,H,n)) λih9=>.n))) .n))
theorem AAT{lp:He}(hL:Eb lp)(G:AX):Oz G 108 (N7 (Sl lp G)):=
 .mk Vs <| mP hL (an:=zW lp G) (λ_ _=>obs (by kernel_rfl)) λc a0 a1 H n k=>by kernel_rfl
def Wi:Ta:=λlp G c k=>.n
theorem Wl{lp:He}(hL:Eb lp)(G:AX):Oz G 110 (N7 (GU lp G)):=
 .mk Iu <| mP hL (an:=Wi lp G) (λ_ _=>obs (by kernel_rfl)) λc a0 a1 H n k=>by kernel_rfl
def ABm:Ta:=λlp G c k=>.n
theorem ABU{lp:He}(hL:Eb lp)(G:AX):Oz G 114 (mO (Us lp G)):=
 .mk XO <| sf1 hL (an:=ABm lp G) (λ_ _=>obs (by kernel_rfl)) λc a0 H n k=>by kernel_rfl
def AG9:Ta:=λlp G c k=>.n
theorem AHL{lp:He}(hL:Eb lp)(G:AX):Oz G 115 (mO (fQ lp G)):=
 .mk oC <| sf1 hL (an:=AG9 lp G) (λ_ _=>obs (by kernel_rfl)) λc a0 H n k=>by kernel_rfl
def ZT:Ta:=λlp G c k=>(.s .n (.j (λR=>Jb lp G c k) (.s .n (.b (.l _ (OQ lp G c k) (λR H n=>(rg R q0,rg R q1,rg R q7,rg R q8,H,n)) λih3=>.n))) .n))
theorem Y5{lp:He}(hL:Eb lp)(G:AX):Oz G 122 (N7 (IU lp G)):=
 .mk KI <| mP hL (an:=ZT lp G) (λ_ _=>obs (by kernel_rfl)) λc a0 a1 H n k=>by kernel_rfl
def Wv:Ta:=λlp G c k=>(.s .n (.s .n (.j (λR=>IG lp G c k) (.s .n (.b (.l _ (Lm lp G c k) (λR H n=>(rg R q0,rg R q1,rg R q12,rg R q13,H,n)) λih6=>.n))) .n)))
theorem XD{lp:He}(hL:Eb lp)(G:AX):Oz G 123 (N7 (GZ lp G)):=
 .mk Ir <| mP hL (an:=Wv lp G) (λ_ _=>obs (by kernel_rfl)) λc a0 a1 H n k=>by kernel_rfl
def lu:Ta:=λlp G c k=>(.s .n (.s .n (.j (λR=>D8 lp G c k (rg R q0) (rg R q6) (rg R q7)) (.s .n (.b (.j (λR=>FI lp G c k (rg R q0) (rg R q1) (rg R q5) (rg R q6) (rg R q7) (rg R q14) (rg R q15)) .n .n))) .n)))
theorem jh{lp:He}(hL:Eb lp)(G:AX):Oz G 124 (ar3 (MQ lp G)):=
 .mk QC <| sf3 hL (an:=lu lp G) (λ_ _=>obs (by kernel_rfl)) λc a0 a1 a2 H n k=>by kernel_rfl
def iw:Ta:=λlp G c k=>(.s .n (.s .n (.j (λR=>NG lp G c k (rg R q0) (rg R q4) (rg R q6)) (.s .n (.b (.l _ (Q7 lp G c k) (λR H n=>(rg R q0,rg R q3,rg R q4,rg R q6,rg R q13,rg R q14,rg R q15,H,n)) λih19=>(.s .n (.s .n (.j (λR=>ED lp G c k ih19 (rg R q0) (rg R q3) (rg R q4) (rg R q6) (rg R q13) (rg R q14) (rg R q15)) .n .n)))))) .n)))
theorem jT{lp:He}(hL:Eb lp)(G:AX):Oz G 125 (N7 (Ku lp G)):=
 .mk Oq <| mP hL (an:=iw lp G) (λ_ _=>obs (by kernel_rfl)) λc a0 a1 H n k=>by kernel_rfl
def ng:Ta:=λlp G c k=>.n
theorem XR{lp:He}(hL:Eb lp)(G:AX):Oz G 126 (N7 (GK lp G)):=
 .mk JH <| mP hL (an:=ng lp G) (λ_ _=>obs (by kernel_rfl)) λc a0 a1 H n k=>by kernel_rfl
def lU:Ta:=λlp G c k=>.n
theorem WR{lp:He}(hL:Eb lp)(G:AX):Oz G 127 (N7 (FU lp G)):=
 .mk Ig <| mP hL (an:=lU lp G) (λ_ _=>obs (by kernel_rfl)) λc a0 a1 H n k=>by kernel_rfl
def ACh:Ta:=λlp G c k=>.n
theorem ACQ{lp:He}(hL:Eb lp)(G:AX):Oz G 128 (ar3 (Vj lp G)):=
 .mk Yo <| sf3 hL (an:=ACh lp G) (λ_ _=>obs (by kernel_rfl)) λc a0 a1 a2 H n k=>by kernel_rfl
def lT:Ta:=λlp G c k=>(.s .n (.s .n (.j (λR=>G9 lp G c k (rg R q6) (rg R q7)) .n .n)))
theorem kS{lp:He}(hL:Eb lp)(G:AX):Oz G 129 (ar3 (ML lp G)):=
 .mk Pq <| sf3 hL (an:=lT lp G) (λ_ _=>obs (by kernel_rfl)) λc a0 a1 a2 H n k=>by kernel_rfl
def ACE:Ta:=λlp G c k=>.n
theorem ACr{lp:He}(hL:Eb lp)(G:AX):Oz G 130 (mO (Vk lp G)):=
 .mk Yv <| sf1 hL (an:=ACE lp G) (λ_ _=>obs (by kernel_rfl)) λc a0 H n k=>by kernel_rfl
def eY:Ta:=λlp G c k=>.n
theorem fB{lp:He}(hL:Eb lp)(G:AX):Oz G 131 (ar3 (J6 lp G)):=
 .mk OB <| sf3 hL (an:=eY lp G) (λ_ _=>obs (by kernel_rfl)) λc a0 a1 a2 H n k=>by kernel_rfl
def RJ:Ta:=λlp G c k=>.n
theorem RU{lp:He}(hL:Eb lp)(G:AX):Oz G 132 (N7 (EY lp G)):=
 .mk GI <| mP hL (an:=RJ lp G) (λ_ _=>obs (by kernel_rfl)) λc a0 a1 H n k=>by kernel_rfl
def yF:Ta:=λlp G c k=>.n
theorem yC{lp:He}(hL:Eb lp)(G:AX):Oz G 133 (N7 (QU lp G)):=
 .mk VD <| mP hL (an:=yF lp G) (λ_ _=>obs (by kernel_rfl)) λc a0 a1 H n k=>by kernel_rfl
def QZ:Ta:=λlp G c k=>.n
theorem Qg{lp:He}(hL:Eb lp)(G:AX):Oz G 134 (N7 (EL lp G)):=
 .mk FV <| mP hL (an:=QZ lp G) (λ_ _=>obs (by kernel_rfl)) λc a0 a1 H n k=>by kernel_rfl
def yQ:Ta:=λlp G c k=>.n
theorem xJ{lp:He}(hL:Eb lp)(G:AX):Oz G 135 (N7 (QH lp G)):=
 .mk VG <| mP hL (an:=yQ lp G) (λ_ _=>obs (by kernel_rfl)) λc a0 a1 H n k=>by kernel_rfl
def KR:Ta:=λlp G c k=>(.s .n (.s .n (.j (λR=>Dk lp G c k) (.s .n (.b (.l _ (FD lp G c k) (λR H n=>(rg R q1,rg R q2,rg R q15,rg R q16,rg R q17,H,n)) λih6=>.n))) .n)))
theorem KZ{lp:He}(hL:Eb lp)(G:AX):Oz G 136 (ar3 (Cj lp G)):=
 .mk Dw <| sf3 hL (an:=KR lp G) (λ_ _=>obs (by kernel_rfl)) λc a0 a1 a2 H n k=>by kernel_rfl
def ABw:Ta:=λlp G c k=>.n
theorem ACk{lp:He}(hL:Eb lp)(G:AX):Oz G 137 (N7 (Vq lp G)):=
 .mk Yf <| mP hL (an:=ABw lp G) (λ_ _=>obs (by kernel_rfl)) λc a0 a1 H n k=>by kernel_rfl
def AEd:Ta:=λlp G c k=>.n
theorem AEG{lp:He}(hL:Eb lp)(G:AX):Oz G 141 (ar0 (Yw lp G)):=
 .mk dJ <| sf0 hL (an:=AEd lp G) (λ_ _=>obs (by kernel_rfl)) λc H n k=>by kernel_rfl
def AB2:Ta:=λlp G c k=>.n
theorem AB1{lp:He}(hL:Eb lp)(G:AX):Oz G 142 (mO (Vp lp G)):=
 .mk Yi <| sf1 hL (an:=AB2 lp G) (λ_ _=>obs (by kernel_rfl)) λc a0 H n k=>by kernel_rfl
def zL:Ta:=λlp G c k=>.n
theorem AAH{lp:He}(hL:Eb lp)(G:AX):Oz G 143 (mO (SS lp G)):=
 .mk WG <| sf1 hL (an:=zL lp G) (λ_ _=>obs (by kernel_rfl)) λc a0 H n k=>by kernel_rfl
def xW:Ta:=λlp G c k=>(.s .n (.j (λR=>RZ lp G c k (rg R q4)) (.s .n (.b (.l _ (Xe lp G c k) (λR H n=>(rg R q1,rg R q4,rg R q11,rg R q12,rg R q13,H,n)) λih9=>.n))) .n))
theorem xG{lp:He}(hL:Eb lp)(G:AX):Oz G 145 (N7 (Qh lp G)):=
 .mk U4 <| mP hL (an:=xW lp G) (λ_ _=>obs (by kernel_rfl)) λc a0 a1 H n k=>by kernel_rfl
def qW:Ta:=λlp G c k=>(.s .n (.j (λR=>Kz lp G c k (rg R q0)) .n .n))
theorem sG{lp:He}(hL:Eb lp)(G:AX):Oz G 146 (ar4 (Ol lp G)):=
 .mk Rk <| sf4 hL (an:=qW lp G) (λ_ _=>obs (by kernel_rfl)) λc a0 a1 a2 a3 H n k=>by kernel_rfl
def rX:Ta:=λlp G c k=>(.s .n (.s .n (.s .n (.s .n (.j (λR=>IK lp G c k (rg R q0) (rg R q3) (rg R q4)) (.s .n (.b (.l _ (JL lp G c k) (λR H n=>(rg R q0,rg R q3,rg R q4,rg R q39,rg R q40,rg R q41,H,n)) λih130=>.n))) (.s .n (.s .n (.j (λR=>CP lp G c k (rg R q3) (rg R q4)) (.s .n (.b (.s .n (.c .n (.s .n (.c .n (.j (λR=>Dp lp G c k (rg R q0) (rg R q3) (rg R q4) (rg R q7) (rg R q66) (rg R AaF)) .n .n))))))) .n))))))))
theorem sO{lp:He}(hL:Eb lp)(G:AX):Oz G 147 (N7 (OH lp G)):=
 .mk Rz <| mP hL (an:=rX lp G) (λ_ _=>obs (by kernel_rfl)) λc a0 a1 H n k=>by kernel_rfl
def fG:Ta:=λlp G c k=>.n
theorem eG{lp:He}(hL:Eb lp)(G:AX):Oz G 174 (N7 (J9 lp G)):=
 .mk N8 <| mP hL (an:=fG lp G) (λ_ _=>obs (by kernel_rfl)) λc a0 a1 H n k=>by kernel_rfl
def oD:Ta:=λlp G c k=>.n
theorem og{lp:He}(hL:Eb lp)(G:AX):Oz G 175 (mO (NW lp G)):=
 .mk Qq <| sf1 hL (an:=oD lp G) (λ_ _=>obs (by kernel_rfl)) λc a0 H n k=>by kernel_rfl
def jP:Ta:=λlp G c k=>.n
theorem jI{lp:He}(hL:Eb lp)(G:AX):Oz G 176 (N7 (LU lp G)):=
 .mk O1 <| mP hL (an:=jP lp G) (λ_ _=>obs (by kernel_rfl)) λc a0 a1 H n k=>by kernel_rfl
def fD:Ta:=λlp G c k=>.n
theorem fF{lp:He}(hL:Eb lp)(G:AX):Oz G 177 (ar3 (KD lp G)):=
 .mk Nz <| sf3 hL (an:=fD lp G) (λ_ _=>obs (by kernel_rfl)) λc a0 a1 a2 H n k=>by kernel_rfl
def YK:Ta:=λlp G c k=>(.s .n (.s .n (.j (λR=>Iw lp G c k (rg R q0) (rg R q1) (rg R q2) (rg R q6) (rg R q7)) (.b (.l _ (MV lp G c k) (λR H n=>(rg R q0,rg R q1,rg R q2,rg R q6,rg R q7,rg R q8,H,n)) λih18=>.n)) (.s .n (.b (.l _ (NJ lp G c k) (λR H n=>(rg R q0,rg R q1,rg R q2,rg R q6,H,n)) λih3=>(.s .n (.b (.s .n (.j (λR=>Np lp G c k ih3 (rg R q0) (rg R q1) (rg R q2) (rg R q6) (rg R q7)) (.b (.l _ (MS lp G c k ih3) (λR H n=>(rg R q0,rg R q1,rg R q2,rg R q6,rg R q7,rg R q8,H,n)) λih12=>.n)) (.j (λR=>Ip lp G c k ih3 (rg R q0) (rg R q1) (rg R q2) (rg R q6)) .n .n)))))))))))
theorem YD{lp:He}(hL:Eb lp)(G:AX):Oz G 178 (ar3 (Gz lp G)):=
 .mk Ja <| sf3 hL (an:=YK lp G) (λ_ _=>obs (by kernel_rfl)) λc a0 a1 a2 H n k=>by kernel_rfl
def XF:Ta:=λlp G c k=>(.s .n (.s .n (.j (λR=>IZ lp G c k (rg R q0) (rg R q1) (rg R q2) (rg R q6) (rg R q7)) (.b (.l _ (Le lp G c k) (λR H n=>(rg R q0,rg R q1,rg R q2,rg R q6,rg R q7,rg R q8,H,n)) λih18=>.n)) (.s .n (.b (.l _ (MR lp G c k) (λR H n=>(rg R q0,rg R q1,rg R q2,rg R q6,H,n)) λih3=>(.s .n (.b (.s .n (.j (λR=>NP lp G c k ih3 (rg R q0) (rg R q1) (rg R q2) (rg R q6) (rg R q7)) (.b (.l _ (LZ lp G c k ih3) (λR H n=>(rg R q0,rg R q1,rg R q2,rg R q6,rg R q7,rg R q8,H,n)) λih12=>.n)) (.j (λR=>Ia lp G c k ih3 (rg R q0) (rg R q1) (rg R q2) (rg R q6)) .n .n)))))))))))
theorem Xj{lp:He}(hL:Eb lp)(G:AX):Oz G 179 (ar3 (Gh lp G)):=
 .mk JB <| sf3 hL (an:=XF lp G) (λ_ _=>obs (by kernel_rfl)) λc a0 a1 a2 H n k=>by kernel_rfl
def AAV:Ta:=λlp G c k=>.n
theorem zF{lp:He}(hL:Eb lp)(G:AX):Oz G 180 (ar3 (Sj lp G)):=
 .mk V8 <| sf3 hL (an:=AAV lp G) (λ_ _=>obs (by kernel_rfl)) λc a0 a1 a2 H n k=>by kernel_rfl
def XA:Ta:=λlp G c k=>.n
theorem Wj{lp:He}(hL:Eb lp)(G:AX):Oz G 182 (mO (GR lp G)):=
 .mk I4 <| sf1 hL (an:=XA lp G) (λ_ _=>obs (by kernel_rfl)) λc a0 H n k=>by kernel_rfl
def rY:Ta:=λlp G c k=>(.s .n (.s .n (.j (λR=>BM lp G c k (rg R q3) (rg R q4)) (.s .n (.b (.s .n (.c .n (.j (λR=>Hz lp G c k (rg R q0) (rg R q3) (rg R q4) (rg R q12) (rg R q19)) .n (.c .n (.s .n (.c .n (.s .n (.c .n (.s .n (.c .n (.j (λR=>EI lp G c k (rg R q0) (rg R q3) (rg R q4) (rg R q12) (rg R q65)) .n (.c .n (.s .n (.c .n (.s .n (.c (.j (λR=>J7 lp G c k (rg R q3) (rg R q4)) .n .n) (.s .n (.c (.j (λR=>J3 lp G c k (rg R q3) (rg R q4)) .n .n) .n)))))))))))))))))))) .n)))
theorem qV{lp:He}(hL:Eb lp)(G:AX):Oz G 183 (N7 (Oi lp G)):=
 .mk SG <| mP hL (an:=rY lp G) (λ_ _=>obs (by kernel_rfl)) λc a0 a1 H n k=>by kernel_rfl
def o9:Ta:=λlp G c k=>(.s .n (.j (λR=>VP lp G c k) (.s .n (.b (.l _ (Ux lp G c k) (λR H n=>(rg R q0,rg R q5,rg R q9,rg R q10,rg R q11,H,n)) λih4=>.n))) .n))
theorem mZ{lp:He}(hL:Eb lp)(G:AX):Oz G 184 (ar3 (Nl lp G)):=
 .mk QY <| sf3 hL (an:=o9 lp G) (λ_ _=>obs (by kernel_rfl)) λc a0 a1 a2 H n k=>by kernel_rfl
def UF:Ta:=λlp G c k=>(.s .n (.b (.l _ (JU lp G c k) (λR H n=>(rg R q0,rg R q1,rg R q2,rg R q3,rg R q8,H,n)) λih2=>(.s .n (.j (λR=>ET lp G c k ih2 (rg R q0) (rg R q1) (rg R q2) (rg R q3) (rg R q8)) (.b (.s .n (.b (.l _ (JY lp G c k ih2) (λR H n=>(rg R q0,rg R q1,rg R q2,rg R q3,rg R q8,rg R q9,H,n)) λih6=>.n)))) .n)))))
theorem Tz{lp:He}(hL:Eb lp)(G:AX):Oz G 214 (ar4 (Ew lp G)):=
 .mk Gt <| sf4 hL (an:=UF lp G) (λ_ _=>obs (by kernel_rfl)) λc a0 a1 a2 a3 H n k=>by kernel_rfl
def TL:Ta:=λlp G c k=>(.s .n (.b (.l _ (JM lp G c k) (λR H n=>(rg R q0,rg R q1,rg R q2,rg R q3,rg R q8,H,n)) λih2=>(.s .n (.j (λR=>EJ lp G c k ih2 (rg R q0) (rg R q1) (rg R q2) (rg R q3) (rg R q8)) (.b (.s .n (.b (.l _ (JC lp G c k ih2) (λR H n=>(rg R q0,rg R q1,rg R q2,rg R q3,rg R q8,rg R q9,H,n)) λih6=>.n)))) .n)))))
theorem TJ{lp:He}(hL:Eb lp)(G:AX):Oz G 216 (ar4 (En lp G)):=
 .mk Gg <| sf4 hL (an:=TL lp G) (λ_ _=>obs (by kernel_rfl)) λc a0 a1 a2 a3 H n k=>by kernel_rfl
def yK:Ta:=λlp G c k=>.n
theorem xX{lp:He}(hL:Eb lp)(G:AX):Oz G 218 (ar3 (QV lp G)):=
 .mk U6 <| sf3 hL (an:=yK lp G) (λ_ _=>obs (by kernel_rfl)) λc a0 a1 a2 H n k=>by kernel_rfl
def qg:Ta:=λlp G c k=>(.s .n (.s .n (.j (λR=>Pj lp G c k (rg R q0)) (.s .n (.b (.l _ (U0 lp G c k) (λR H n=>(rg R q0,rg R q1,rg R q18,rg R q19,rg R q20,H,n)) λih18=>.n))) .n)))
theorem ru{lp:He}(hL:Eb lp)(G:AX):Oz G 219 (N7 (OZ lp G)):=
 .mk RX <| mP hL (an:=qg lp G) (λ_ _=>obs (by kernel_rfl)) λc a0 a1 H n k=>by kernel_rfl
def lN:Ta:=λlp G c k=>(.s .n (.j (λR=>EZ lp G c k (rg R q0) (rg R q1) (rg R q4) (rg R q5)) .n (.s .n (.s .n (.s .n (.j (λR=>JG lp G c k (rg R q1) (rg R q9) (rg R q10)) .n .n))))))
theorem jo{lp:He}(hL:Eb lp)(G:AX):Oz G 220 (N7 (Lp lp G)):=
 .mk QA <| mP hL (an:=lN lp G) (λ_ _=>obs (by kernel_rfl)) λc a0 a1 H n k=>by kernel_rfl
def sN:Ta:=λlp G c k=>(.b (.s .n (.c .n (.s .n (.c .n (.s .n (.c (.s .n (.j (λR=>F8 lp G c k (rg R q1)) .n .n)) .n)))))))
theorem Jr{lp:He}(hL:Eb lp)(G:AX):Oz G 221 (N7 (Bv lp G)):=
 .mk Df <| mP hL (an:=sN lp G) (λ_ _=>obs (by kernel_rfl)) λc a0 a1 H n k=>by kernel_rfl
def sQ:Ta:=λlp G c k=>(.s .n (.s .n (.s .n (.b (.l _ (U1 lp G c k) (λR H n=>(rg R q0,rg R q7,rg R q21,rg R q22,rg R q23,H,n)) λih13=>.n)))))
theorem qw{lp:He}(hL:Eb lp)(G:AX):Oz G 248 (ar4 (OW lp G)):=
 .mk Rl <| sf4 hL (an:=sQ lp G) (λ_ _=>obs (by kernel_rfl)) λc a0 a1 a2 a3 H n k=>by kernel_rfl
end Go.RL
