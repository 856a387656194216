/- Part of a proof; nothing is assumed. -/
import Derived.Test.YtdellhdojgpghaaGreatDoorPlain
import Derived.Test.YtdellhdojgpghaaGreatDoorCode
import Derived.Test.YtdellhdojgpghaaGreatDoorEngE
set_option linter.unusedVariables false
set_option linter.unusedSimpArgs false
noncomputable section
namespace Go.RL
open Go.Bj
set_option maxRecDepth 100000
abbrev Ta:=Ed->AV->BD->KV->An
inductive Io(G:AV)(n:Nat)(s:SF):Prop where
 |mk {af:AF} (h:T.get F n=some af) (o:AJv G af s):Io G n s
def dQ:Ta:=λlp G c k=>(.s .n (.s .n (.s .n (.s .n (.s .n (.j (λR=>Ko lp G c k (rg R q0) (rg R q1) (rg R q5)) (.s .n (.b (.l _ (PZ lp G c k) (λR H n=>(rg R q0,rg R q1,rg R q5,rg R q6,H,n)) λih45=>(.s .n (.s (.b (.j (λR=>Eo lp G c k ih45 (rg R q0) (rg R q1) (rg R q5) (rg R q6)) .n .n)) .n))))) (.s .n (.j (λR=>G7 lp G c k (rg R q0) (rg R q1) (rg R q5) (rg R q7)) (.s .n (.b (.l _ (PG lp G c k) (λR H n=>(rg R q0,rg R q1,rg R q5,rg R q7,rg R q8,H,n)) λih41=>.n))) .n))))))))
theorem dY{lp:Ed}(hL:Cb lp)(G:AV):Io G 3 (Z7 (UG lp G)):=
 .mk dI <| gU hL (an:=dQ lp G) (λ_ _=>obs (by kernel_rfl)) λc a0 a1 H n k=>by kernel_rfl
def AD3:Ta:=λlp G c k=>(.s .n (.s .n (.j (λR=>bG lp G c k (rg R q4)) (.s .n (.b (.l _ (ZO lp G c k) (λR H n=>(rg R q4,rg R q10,rg R q11,rg R q12,H,n)) λih4=>.n))) .n)))
theorem AD0{lp:Ed}(hL:Cb lp)(G:AV):Io G 5 (YV (qA lp G)):=
 .mk AEA <| Yg hL (an:=AD3 lp G) (λ_ _=>obs (by kernel_rfl)) λc a0 H n k=>by kernel_rfl
def AFC:Ta:=λlp G c k=>(.s .n (.s .n (.s .n (.s .n (.s .n (.s .n (.j (λR=>QF lp G c k (rg R q3) (rg R q4) (rg R q5) (rg R q9)) (.s .n (.b (.l _ (TN lp G c k) (λR H n=>(rg R q3,rg R q4,rg R q5,rg R q9,rg R q52,rg R q53,rg R q54,H,n)) λih61=>.n))) .n)))))))
theorem AEw{lp:Ed}(hL:Cb lp)(G:AV):Io G 6 (Z7 (yH lp G)):=
 .mk AEy <| gU hL (an:=AFC lp G) (λ_ _=>obs (by kernel_rfl)) λc a0 a1 H n k=>by kernel_rfl
def zH:Ta:=λlp G c k=>(.s .n (.s .n (.j (λR=>Qx lp G c k (rg R q3)) (.s .n (.b (.l _ (Vt lp G c k) (λR H n=>(rg R q3,rg R q7,rg R q8,rg R q9,H,n)) λih5=>.n))) .n)))
theorem AAM{lp:Ed}(hL:Cb lp)(G:AV):Io G 7 (YV (bJ lp G)):=
 .mk yg <| Yg hL (an:=zH lp G) (λ_ _=>obs (by kernel_rfl)) λc a0 H n k=>by kernel_rfl
def ANI:Ta:=λlp G c k=>.n
theorem AFO{lp:Ed}(hL:Cb lp)(G:AV):Io G 8 (ar0 (AB9 lp G)):=
 .mk ANG <| sf0 hL (an:=ANI lp G) (λ_ _=>obs (by kernel_rfl)) λc H n k=>by kernel_rfl
def AGX:Ta:=λlp G c k=>.n
theorem AFK{lp:Ed}(hL:Cb lp)(G:AV):Io G 9 (YV (yK lp G)):=
 .mk AEl <| Yg hL (an:=AGX lp G) (λ_ _=>obs (by kernel_rfl)) λc a0 H n k=>by kernel_rfl
def AAQ:Ta:=λlp G c k=>.n
theorem zW{lp:Ed}(hL:Cb lp)(G:AV):Io G 10 (Z7 (bH lp G)):=
 .mk zB <| gU hL (an:=AAQ lp G) (λ_ _=>obs (by kernel_rfl)) λc a0 a1 H n k=>by kernel_rfl
def ABn:Ta:=λlp G c k=>.n
theorem AA8{lp:Ed}(hL:Cb lp)(G:AV):Io G 11 (Z7 (gB lp G)):=
 .mk ABZ <| gU hL (an:=ABn lp G) (λ_ _=>obs (by kernel_rfl)) λc a0 a1 H n k=>by kernel_rfl
def AM8:Ta:=λlp G c k=>(.s .n (.s .n (.j (λR=>Ws lp G c k (rg R q2) (rg R q3)) (.s .n (.b (.l _ (sV lp G c k) (λR H n=>(rg R q2,rg R q3,rg R q15,rg R q16,rg R q17,H,n)) λih20=>.n))) .n)))
theorem AN1{lp:Ed}(hL:Cb lp)(G:AV):Io G 12 (YV (AG9 lp G)):=
 .mk AMf <| Yg hL (an:=AM8 lp G) (λ_ _=>obs (by kernel_rfl)) λc a0 H n k=>by kernel_rfl
def xw:Ta:=λlp G c k=>(.s .n (.s .n (.s .n (.s .n (.s .n (.s .n (.j (λR=>KD lp G c k (rg R q0) (rg R q5)) (.s .n (.b (.l _ (OB lp G c k) (λR H n=>(rg R q0,rg R q5,rg R q67,rg R q68,rg R q69,H,n)) λih74=>.n))) (.j (λR=>Oi lp G c k) (.s .n (.b (.l _ (UD lp G c k) (λR H n=>(rg R q0,rg R q5,rg R q92,rg R q93,rg R q94,H,n)) λih37=>.n))) .n))))))))
theorem wR{lp:Ed}(hL:Cb lp)(G:AV):Io G 13 (Z7 (Zn lp G)):=
 .mk xZ <| gU hL (an:=xw lp G) (λ_ _=>obs (by kernel_rfl)) λc a0 a1 H n k=>by kernel_rfl
def RQ:Ta:=λlp G c k=>.n
theorem Q9{lp:Ed}(hL:Cb lp)(G:AV):Io G 14 (YV (Jr lp G)):=
 .mk RH <| Yg hL (an:=RQ lp G) (λ_ _=>obs (by kernel_rfl)) λc a0 H n k=>by kernel_rfl
def fJ:Ta:=λlp G c k=>(.s .n (.s .n (.j (λR=>FH lp G c k (rg R q0) (rg R q3) (rg R q4)) (.s .n (.b (.l _ (QN lp G c k) (λR H n=>(rg R q0,rg R q3,rg R q4,rg R q16,rg R q17,rg R q18,H,n)) λih22=>.n))) .n)))
theorem iV{lp:Ed}(hL:Cb lp)(G:AV):Io G 15 (Z7 (VL lp G)):=
 .mk gQ <| gU hL (an:=fJ lp G) (λ_ _=>obs (by kernel_rfl)) λc a0 a1 H n k=>by kernel_rfl
def ALo:Ta:=λlp G c k=>(.s .n (.s .n (.j (λR=>dD lp G c k (rg R q3)) (.s .n (.b (.l _ (qY lp G c k) (λR H n=>(rg R q3,rg R q10,rg R q11,rg R q12,H,n)) λih7=>.n))) .n)))
theorem ALc{lp:Ed}(hL:Cb lp)(G:AV):Io G 16 (YV (AF6 lp G)):=
 .mk ALq <| Yg hL (an:=ALo lp G) (λ_ _=>obs (by kernel_rfl)) λc a0 H n k=>by kernel_rfl
def ANC:Ta:=λlp G c k=>(.s .n (.s .n (.s .n (.s .n (.b (.l _ (qy lp G c k) (λR H n=>(rg R q3,rg R q4,rg R q5,H,n)) λih12=>.n))))))
theorem ANN{lp:Ed}(hL:Cb lp)(G:AV):Io G 17 (YV (AHk lp G)):=
 .mk AMr <| Yg hL (an:=ANC lp G) (λ_ _=>obs (by kernel_rfl)) λc a0 H n k=>by kernel_rfl
def oQ:Ta:=λlp G c k=>(.s .n (.s .n (.s .n (.s .n (.j (λR=>F5 lp G c k (rg R q0) (rg R q2) (rg R q3)) .n (.s .n (.j (λR=>I4 lp G c k (rg R q0) (rg R q2) (rg R q3)) (.b (.l _ (Rk lp G c k) (λR H n=>(rg R q0,rg R q2,rg R q3,H,n)) λih34=>.n)) (.j (λR=>F8 lp G c k (rg R q2) (rg R q3)) .n .n))))))))
theorem l7{lp:Ed}(hL:Cb lp)(G:AV):Io G 18 (YV (W9 lp G)):=
 .mk oJ <| Yg hL (an:=oQ lp G) (λ_ _=>obs (by kernel_rfl)) λc a0 H n k=>by kernel_rfl
def AAA:Ta:=λlp G c k=>.n
theorem zL{lp:Ed}(hL:Cb lp)(G:AV):Io G 19 (YV (bK lp G)):=
 .mk zN <| Yg hL (an:=AAA lp G) (λ_ _=>obs (by kernel_rfl)) λc a0 H n k=>by kernel_rfl
def Vh:Ta:=λlp G c k=>(.s .n (.s .n (.j (λR=>Gq lp G c k) (.s .n (.b (.l _ (KR lp G c k) (λR H n=>(rg R q0,rg R q1,rg R q12,rg R q13,H,n)) λih6=>.n))) .n)))
theorem Vb{lp:Ed}(hL:Cb lp)(G:AV):Io G 20 (Z7 (Oa lp G)):=
 .mk VY <| gU hL (an:=Vh lp G) (λ_ _=>obs (by kernel_rfl)) λc a0 a1 H n k=>by kernel_rfl
def JQ:Ta:=λlp G c k=>(.s .n (.s .n (.j (λR=>Ce lp G c k) (.s .n (.b (.l _ (EH lp G c k) (λR H n=>(rg R q1,rg R q2,rg R q15,rg R q16,rg R q17,H,n)) λih6=>.n))) .n)))
theorem JO{lp:Ed}(hL:Cb lp)(G:AV):Io G 21 (ar3 (EP lp G)):=
 .mk JU <| sf3 hL (an:=JQ lp G) (λ_ _=>obs (by kernel_rfl)) λc a0 a1 a2 H n k=>by kernel_rfl
def ACR:Ta:=λlp G c k=>.n
theorem ACe{lp:Ed}(hL:Cb lp)(G:AV):Io G 22 (Z7 (lg lp G)):=
 .mk ACx <| gU hL (an:=ACR lp G) (λ_ _=>obs (by kernel_rfl)) λc a0 a1 H n k=>by kernel_rfl
def Vk:Ta:=λlp G c k=>.n
theorem VU{lp:Ed}(hL:Cb lp)(G:AV):Io G 23 (YV (OW lp G)):=
 .mk VR <| Yg hL (an:=Vk lp G) (λ_ _=>obs (by kernel_rfl)) λc a0 H n k=>by kernel_rfl
def AL8:Ta:=λlp G c k=>(.s .n (.s .n (.j (λR=>Z5 lp G c k (rg R q2) (rg R q3)) (.s .n (.b (.l _ (lu lp G c k) (λR H n=>(rg R q2,rg R q3,rg R q14,rg R q15,rg R q16,H,n)) λih18=>.n))) .n)))
theorem ALP{lp:Ed}(hL:Cb lp)(G:AV):Io G 24 (YV (AEh lp G)):=
 .mk AMA <| Yg hL (an:=AL8 lp G) (λ_ _=>obs (by kernel_rfl)) λc a0 H n k=>by kernel_rfl
def ABK:Ta:=λlp G c k=>.n
theorem ABJ{lp:Ed}(hL:Cb lp)(G:AV):Io G 25 (YV (eH lp G)):=
 .mk AAl <| Yg hL (an:=ABK lp G) (λ_ _=>obs (by kernel_rfl)) λc a0 H n k=>by kernel_rfl
def wZ:Ta:=λlp G c k=>(.s .n (.s .n (.j (λR=>Pv lp G c k (rg R q6)) (.b (.l _ (Ux lp G c k) (λR H n=>(rg R q0,rg R q1,rg R q6,H,n)) λih2=>.n)) .n)))
theorem xY{lp:Ed}(hL:Cb lp)(G:AV):Io G 26 (Z7 (ZE lp G)):=
 .mk wI <| gU hL (an:=wZ lp G) (λ_ _=>obs (by kernel_rfl)) λc a0 a1 H n k=>by kernel_rfl
def U4:Ta:=λlp G c k=>.n
theorem VF{lp:Ed}(hL:Cb lp)(G:AV):Io G 27 (Z7 (Nb lp G)):=
 .mk U0 <| gU hL (an:=U4 lp G) (λ_ _=>obs (by kernel_rfl)) λc a0 a1 H n k=>by kernel_rfl
def AGh:Ta:=λlp G c k=>(.s .n (.j (λR=>TD lp G c k (rg R q1)) (.s .n (.b (.l _ (bM lp G c k) (λR H n=>(rg R q1,rg R q7,rg R q8,H,n)) λih29=>.n))) (.j (λR=>X0 lp G c k) (.s .n (.b (.l _ (gq lp G c k) (λR H n=>(rg R q1,rg R q32,rg R q33,H,n)) λih7=>.n))) .n)))
theorem AGj{lp:Ed}(hL:Cb lp)(G:AV):Io G 28 (YV (ABN lp G)):=
 .mk AGg <| Yg hL (an:=AGh lp G) (λ_ _=>obs (by kernel_rfl)) λc a0 H n k=>by kernel_rfl
def wU:Ta:=λlp G c k=>(.s .n (.j (λR=>QB lp G c k) (.s .n (.b (.l _ (U7 lp G c k) (λR H n=>(rg R q0,rg R q9,rg R q10,rg R q11,H,n)) λih3=>(.s .n (.s .n (.j (λR=>Ic lp G c k ih3 (rg R q0) (rg R q9) (rg R q10) (rg R q11)) .n .n)))))) .n))
theorem wK{lp:Ed}(hL:Cb lp)(G:AV):Io G 29 (Z7 (Zp lp G)):=
 .mk wM <| gU hL (an:=wU lp G) (λ_ _=>obs (by kernel_rfl)) λc a0 a1 H n k=>by kernel_rfl
def x9:Ta:=λlp G c k=>(.s .n (.s .n (.j (λR=>P7 lp G c k (rg R q7)) (.s .n (.b (.l _ (VH lp G c k) (λR H n=>(rg R q0,rg R q2,rg R q7,rg R q23,rg R q24,rg R q25,H,n)) λih9=>.n))) .n)))
theorem wz{lp:Ed}(hL:Cb lp)(G:AV):Io G 30 (ar3 (Zi lp G)):=
 .mk xu <| sf3 hL (an:=x9 lp G) (λ_ _=>obs (by kernel_rfl)) λc a0 a1 a2 H n k=>by kernel_rfl
def pJ:Ta:=λlp G c k=>(.s .n (.s .n (.j (λR=>Jv lp G c k (rg R q9)) (.s .n (.b (.l _ (Tz lp G c k) (λR H n=>(rg R q0,rg R q2,rg R q3,rg R q9,rg R q25,rg R q26,rg R q27,H,n)) λih9=>.n))) .n)))
theorem XF{lp:Ed}(hL:Cb lp)(G:AV):Io G 31 (ar4 (Rq lp G)):=
 .mk tV <| sf4 hL (an:=pJ lp G) (λ_ _=>obs (by kernel_rfl)) λc a0 a1 a2 a3 H n k=>by kernel_rfl
def uK:Ta:=λlp G c k=>.n
theorem Xp{lp:Ed}(hL:Cb lp)(G:AV):Io G 32 (ar3 (Ru lp G)):=
 .mk rH <| sf3 hL (an:=uK lp G) (λ_ _=>obs (by kernel_rfl)) λc a0 a1 a2 H n k=>by kernel_rfl
def jg:Ta:=λlp G c k=>(.s .n (.s .n (.s .n (.j (λR=>Fq lp G c k (rg R q0) (rg R q5) (rg R q6)) (.s .n (.b (.l _ (Qq lp G c k) (λR H n=>(rg R q0,rg R q5,rg R q6,rg R q15,rg R q16,rg R q17,H,n)) λih17=>.n))) .n))))
theorem Om{lp:Ed}(hL:Cb lp)(G:AV):Io G 33 (Z7 (LP lp G)):=
 .mk jO <| gU hL (an:=jg lp G) (λ_ _=>obs (by kernel_rfl)) λc a0 a1 H n k=>by kernel_rfl
def AB2:Ta:=λlp G c k=>(.b (.l _ (XJ lp G c k) (λR H n=>(rg R q0,H,n)) λih1=>(.s .n (.b (.s .n (.b (.s .n (.c .n (.s .n (.c (.s .n (.j (λR=>FD lp G c k ih1 (rg R q0) (rg R q3)) .n .n)) .n))))))))))
theorem AAj{lp:Ed}(hL:Cb lp)(G:AV):Io G 34 (YV (gY lp G)):=
 .mk ABu <| Yg hL (an:=AB2 lp G) (λ_ _=>obs (by kernel_rfl)) λc a0 H n k=>by kernel_rfl
def ABQ:Ta:=λlp G c k=>(.s .n (.s .n (.s .n (.s .n (.j (λR=>DW lp G c k (rg R q0) (rg R q2) (rg R q4)) (.b (.s .n (.c .n (.s .n (.c .n (.s .n (.c .n (.s .n (.b (.l _ (Vx lp G c k) (λR H n=>(rg R q0,rg R q2,rg R q4,rg R q34,rg R q35,H,n)) λih81=>.n)))))))))) .n)))))
theorem ABg{lp:Ed}(hL:Cb lp)(G:AV):Io G 35 (YV (iT lp G)):=
 .mk ABj <| Yg hL (an:=ABQ lp G) (λ_ _=>obs (by kernel_rfl)) λc a0 H n k=>by kernel_rfl
def uY:Ta:=λlp G c k=>(.s .n (.b (.l _ (Tv lp G c k) (λR H n=>(rg R q0,rg R q6,rg R q7,rg R q8,H,n)) λih2=>(.s .n (.s .n (.j (λR=>Hg lp G c k ih2 (rg R q0) (rg R q6) (rg R q7) (rg R q8)) .n .n))))))
theorem tu{lp:Ed}(hL:Cb lp)(G:AV):Io G 36 (Z7 (YH lp G)):=
 .mk tC <| gU hL (an:=uY lp G) (λ_ _=>obs (by kernel_rfl)) λc a0 a1 H n k=>by kernel_rfl
def tN:Ta:=λlp G c k=>.n
theorem uI{lp:Ed}(hL:Cb lp)(G:AV):Io G 37 (Z7 (YZ lp G)):=
 .mk vF <| gU hL (an:=tN lp G) (λ_ _=>obs (by kernel_rfl)) λc a0 a1 H n k=>by kernel_rfl
def uH:Ta:=λlp G c k=>.n
theorem uQ{lp:Ed}(hL:Cb lp)(G:AV):Io G 38 (Z7 (YD lp G)):=
 .mk qc <| gU hL (an:=uH lp G) (λ_ _=>obs (by kernel_rfl)) λc a0 a1 H n k=>by kernel_rfl
def wH:Ta:=λlp G c k=>(.s .n (.s .n (.j (λR=>Ii lp G c k (rg R q2) (rg R q3)) .n .n)))
theorem yD{lp:Ed}(hL:Cb lp)(G:AV):Io G 39 (YV (ZA lp G)):=
 .mk wQ <| Yg hL (an:=wH lp G) (λ_ _=>obs (by kernel_rfl)) λc a0 H n k=>by kernel_rfl
def rX:Ta:=λlp G c k=>.n
theorem rD{lp:Ed}(hL:Cb lp)(G:AV):Io G 40 (Z7 (YJ lp G)):=
 .mk uS <| gU hL (an:=rX lp G) (λ_ _=>obs (by kernel_rfl)) λc a0 a1 H n k=>by kernel_rfl
def y7:Ta:=λlp G c k=>(.s .n (.j (λR=>Qz lp G c k) (.s .n (.b (.l _ (Vs lp G c k) (λR H n=>(rg R q0,rg R q7,rg R q8,rg R q9,H,n)) λih3=>.n))) .n))
theorem zx{lp:Ed}(hL:Cb lp)(G:AV):Io G 41 (Z7 (bV lp G)):=
 .mk zK <| gU hL (an:=y7 lp G) (λ_ _=>obs (by kernel_rfl)) λc a0 a1 H n k=>by kernel_rfl
def kC:Ta:=λlp G c k=>(.s .n (.s .n (.s .n (.s .n (.s .n (.s .n (.s .n (.j (λR=>IX lp G c k (rg R q0) (rg R q2) (rg R q4)) (.b (.l _ (Qw lp G c k) (λR H n=>(rg R q0,rg R q2,rg R q4,H,n)) λih31=>(.s .n (.b (.j (λR=>FT lp G c k ih31 (rg R q0) (rg R q2) (rg R q4)) .n .n))))) .n))))))))
theorem kS{lp:Ed}(hL:Cb lp)(G:AV):Io G 42 (YV (V9 lp G)):=
 .mk jc <| Yg hL (an:=kC lp G) (λ_ _=>obs (by kernel_rfl)) λc a0 H n k=>by kernel_rfl
def sG:Ta:=λlp G c k=>.n
theorem uM{lp:Ed}(hL:Cb lp)(G:AV):Io G 43 (Z7 (YE lp G)):=
 .mk tX <| gU hL (an:=sG lp G) (λ_ _=>obs (by kernel_rfl)) λc a0 a1 H n k=>by kernel_rfl
def UU:Ta:=λlp G c k=>(.s .n (.s .n (.j (λR=>F6 lp G c k) (.s .n (.b (.l _ (Jm lp G c k) (λR H n=>(rg R q0,rg R q1,rg R q12,rg R q13,H,n)) λih6=>.n))) .n)))
theorem UR{lp:Ed}(hL:Cb lp)(G:AV):Io G 44 (Z7 (MO lp G)):=
 .mk UM <| gU hL (an:=UU lp G) (λ_ _=>obs (by kernel_rfl)) λc a0 a1 H n k=>by kernel_rfl
def Pq:Ta:=λlp G c k=>.n
theorem Px{lp:Ed}(hL:Cb lp)(G:AV):Io G 45 (Z7 (Iu lp G)):=
 .mk Pn <| gU hL (an:=Pq lp G) (λ_ _=>obs (by kernel_rfl)) λc a0 a1 H n k=>by kernel_rfl
def wX:Ta:=λlp G c k=>.n
theorem wB{lp:Ed}(hL:Cb lp)(G:AV):Io G 46 (Z7 (ZT lp G)):=
 .mk yA <| gU hL (an:=wX lp G) (λ_ _=>obs (by kernel_rfl)) λc a0 a1 H n k=>by kernel_rfl
def AAN:Ta:=λlp G c k=>.n
theorem AAT{lp:Ed}(hL:Cb lp)(G:AV):Io G 47 (Z7 (bQ lp G)):=
 .mk zT <| gU hL (an:=AAN lp G) (λ_ _=>obs (by kernel_rfl)) λc a0 a1 H n k=>by kernel_rfl
def O1:Ta:=λlp G c k=>.n
theorem Oj{lp:Ed}(hL:Cb lp)(G:AV):Io G 48 (Z7 (IG lp G)):=
 .mk Ou <| gU hL (an:=O1 lp G) (λ_ _=>obs (by kernel_rfl)) λc a0 a1 H n k=>by kernel_rfl
def wL:Ta:=λlp G c k=>.n
theorem wY{lp:Ed}(hL:Cb lp)(G:AV):Io G 49 (Z7 (ZQ lp G)):=
 .mk yB <| gU hL (an:=wL lp G) (λ_ _=>obs (by kernel_rfl)) λc a0 a1 H n k=>by kernel_rfl
def Wy:Ta:=λlp G c k=>(.s .n (.j (λR=>IL lp G c k) (.s .n (.b (.l _ (MJ lp G c k) (λR H n=>(rg R q0,rg R q1,rg R q7,rg R q8,H,n)) λih3=>.n))) .n))
theorem XR{lp:Ed}(hL:Cb lp)(G:AV):Io G 50 (Z7 (PS lp G)):=
 .mk XZ <| gU hL (an:=Wy lp G) (λ_ _=>obs (by kernel_rfl)) λc a0 a1 H n k=>by kernel_rfl
def AI6:Ta:=λlp G c k=>.n
theorem AIg{lp:Ed}(hL:Cb lp)(G:AV):Io G 51 (YV (ADk lp G)):=
 .mk AIC <| Yg hL (an:=AI6 lp G) (λ_ _=>obs (by kernel_rfl)) λc a0 H n k=>by kernel_rfl
def APr:Ta:=λlp G c k=>.n
theorem AHK{lp:Ed}(hL:Cb lp)(G:AV):Io G 52 (YV (AGG lp G)):=
 .mk AQE <| Yg hL (an:=APr lp G) (λ_ _=>obs (by kernel_rfl)) λc a0 H n k=>by kernel_rfl
def AA4:Ta:=λlp G c k=>.n
theorem aK{lp:Ed}(hL:Cb lp)(G:AV):Io G 53 (YV (WX lp G)):=
 .mk ABF <| Yg hL (an:=AA4 lp G) (λ_ _=>obs (by kernel_rfl)) λc a0 H n k=>by kernel_rfl
def AAP:Ta:=λlp G c k=>(.s .n (.j (λR=>Qk lp G c k (rg R q4)) (.s .n (.b (.l _ (V7 lp G c k) (λR H n=>(rg R q1,rg R q4,rg R q9,rg R q10,rg R q11,H,n)) λih9=>.n))) .n))
theorem AAG{lp:Ed}(hL:Cb lp)(G:AV):Io G 54 (Z7 (bC lp G)):=
 .mk zY <| gU hL (an:=AAP lp G) (λ_ _=>obs (by kernel_rfl)) λc a0 a1 H n k=>by kernel_rfl
def xI:Ta:=λlp G c k=>(.s .n (.j (λR=>P6 lp G c k (rg R q4)) (.s .n (.b (.l _ (Uz lp G c k) (λR H n=>(rg R q1,rg R q4,rg R q9,rg R q10,rg R q11,H,n)) λih9=>.n))) .n))
theorem wP{lp:Ed}(hL:Cb lp)(G:AV):Io G 55 (Z7 (ZC lp G)):=
 .mk xM <| gU hL (an:=xI lp G) (λ_ _=>obs (by kernel_rfl)) λc a0 a1 H n k=>by kernel_rfl
def wS:Ta:=λlp G c k=>(.s .n (.j (λR=>P8 lp G c k (rg R q4)) (.s .n (.b (.l _ (VQ lp G c k) (λR H n=>(rg R q1,rg R q4,rg R q11,rg R q12,rg R q13,H,n)) λih9=>.n))) .n))
theorem xO{lp:Ed}(hL:Cb lp)(G:AV):Io G 56 (Z7 (Y7 lp G)):=
 .mk wO <| gU hL (an:=wS lp G) (λ_ _=>obs (by kernel_rfl)) λc a0 a1 H n k=>by kernel_rfl
def mZ:Ta:=λlp G c k=>(.s .n (.j (λR=>Gm lp G c k (rg R q0)) .n .n))
theorem Vp{lp:Ed}(hL:Cb lp)(G:AV):Io G 57 (ar4 (Qh lp G)):=
 .mk oK <| sf4 hL (an:=mZ lp G) (λ_ _=>obs (by kernel_rfl)) λc a0 a1 a2 a3 H n k=>by kernel_rfl
def oV:Ta:=λlp G c k=>(.s .n (.s .n (.s .n (.s .n (.j (λR=>DX lp G c k (rg R q0) (rg R q3) (rg R q4)) (.s .n (.b (.l _ (Hr lp G c k) (λR H n=>(rg R q0,rg R q3,rg R q4,rg R q39,rg R q40,rg R q41,H,n)) λih130=>.n))) (.s .n (.s .n (.j (λR=>BR lp G c k (rg R q3) (rg R q4)) (.s .n (.b (.s .n (.c .n (.s .n (.c .n (.j (λR=>Bv lp G c k (rg R q0) (rg R q3) (rg R q4) (rg R q7) (rg R q66) (rg R AdV)) .n .n))))))) .n))))))))
theorem Vz{lp:Ed}(hL:Cb lp)(G:AV):Io G 58 (Z7 (Qo lp G)):=
 .mk oU <| gU hL (an:=oV lp G) (λ_ _=>obs (by kernel_rfl)) λc a0 a1 H n k=>by kernel_rfl
def ABP:Ta:=λlp G c k=>(.s .n (.b (.l _ (XY lp G c k) (λR H n=>(rg R q0,rg R q4,rg R q5,H,n)) λih1=>(.s .n (.s .n (.s (.b (.s .n (.j (λR=>JI lp G c k ih1 (rg R q0) (rg R q4) (rg R q5)) .n .n))) .n))))))
theorem AAz{lp:Ed}(hL:Cb lp)(G:AV):Io G 59 (Z7 (eF lp G)):=
 .mk ABk <| gU hL (an:=ABP lp G) (λ_ _=>obs (by kernel_rfl)) λc a0 a1 H n k=>by kernel_rfl
def rM:Ta:=λlp G c k=>.n
theorem uZ{lp:Ed}(hL:Cb lp)(G:AV):Io G 60 (Z7 (YL lp G)):=
 .mk rO <| gU hL (an:=rM lp G) (λ_ _=>obs (by kernel_rfl)) λc a0 a1 H n k=>by kernel_rfl
def qO:Ta:=λlp G c k=>.n
theorem sZ{lp:Ed}(hL:Cb lp)(G:AV):Io G 61 (Z7 (YG lp G)):=
 .mk rC <| gU hL (an:=qO lp G) (λ_ _=>obs (by kernel_rfl)) λc a0 a1 H n k=>by kernel_rfl
def AIO:Ta:=λlp G c k=>.n
theorem AIu{lp:Ed}(hL:Cb lp)(G:AV):Io G 62 (YV (ADr lp G)):=
 .mk AIJ <| Yg hL (an:=AIO lp G) (λ_ _=>obs (by kernel_rfl)) λc a0 H n k=>by kernel_rfl
def ACu:Ta:=λlp G c k=>(.s .n (.s .n (.j (λR=>O8 lp G c k (rg R q0) (rg R q5)) (.b (.l _ (Xl lp G c k) (λR H n=>(rg R q0,rg R q1,rg R q5,H,n)) λih13=>.n)) .n)))
theorem ACV{lp:Ed}(hL:Cb lp)(G:AV):Io G 63 (Z7 (lK lp G)):=
 .mk ACG <| gU hL (an:=ACu lp G) (λ_ _=>obs (by kernel_rfl)) λc a0 a1 H n k=>by kernel_rfl
def AJi:Ta:=λlp G c k=>.n
theorem AIT{lp:Ed}(hL:Cb lp)(G:AV):Io G 64 (YV (AC9 lp G)):=
 .mk AJL <| Yg hL (an:=AJi lp G) (λ_ _=>obs (by kernel_rfl)) λc a0 H n k=>by kernel_rfl
def AJ2:Ta:=λlp G c k=>.n
theorem AJz{lp:Ed}(hL:Cb lp)(G:AV):Io G 65 (YV (ADE lp G)):=
 .mk AJM <| Yg hL (an:=AJ2 lp G) (λ_ _=>obs (by kernel_rfl)) λc a0 H n k=>by kernel_rfl
def AJs:Ta:=λlp G c k=>(.s .n (.s (.s .n (.b (.j (λR=>Bc lp G c k (rg R q4)) .n .n))) .n))
theorem AIW{lp:Ed}(hL:Cb lp)(G:AV):Io G 66 (YV (AC2 lp G)):=
 .mk AIN <| Yg hL (an:=AJs lp G) (λ_ _=>obs (by kernel_rfl)) λc a0 H n k=>by kernel_rfl
def AJc:Ta:=λlp G c k=>.n
theorem AIY{lp:Ed}(hL:Cb lp)(G:AV):Io G 67 (YV (ADI lp G)):=
 .mk AJp <| Yg hL (an:=AJc lp G) (λ_ _=>obs (by kernel_rfl)) λc a0 H n k=>by kernel_rfl
def AGf:Ta:=λlp G c k=>(.s .n (.s .n (.j (λR=>Xy lp G c k (rg R q4)) (.s .n (.b (.l _ (eY lp G c k) (λR H n=>(rg R q4,rg R q8,rg R q9,rg R q10,H,n)) λih4=>.n))) .n)))
theorem AGm{lp:Ed}(hL:Cb lp)(G:AV):Io G 68 (YV (ABD lp G)):=
 .mk AGp <| Yg hL (an:=AGf lp G) (λ_ _=>obs (by kernel_rfl)) λc a0 H n k=>by kernel_rfl
def tY:Ta:=λlp G c k=>(.s .n (.s .n (.j (λR=>Hl lp G c k (rg R q2) (rg R q3)) .n .n)))
theorem rV{lp:Ed}(hL:Cb lp)(G:AV):Io G 69 (YV (Yk lp G)):=
 .mk tZ <| Yg hL (an:=tY lp G) (λ_ _=>obs (by kernel_rfl)) λc a0 H n k=>by kernel_rfl
def rW:Ta:=λlp G c k=>.n
theorem tJ{lp:Ed}(hL:Cb lp)(G:AV):Io G 70 (YV (YU lp G)):=
 .mk uJ <| Yg hL (an:=rW lp G) (λ_ _=>obs (by kernel_rfl)) λc a0 H n k=>by kernel_rfl
def mF:Ta:=λlp G c k=>(.s .n (.s .n (.s .n (.s .n (.j (λR=>JX lp G c k (rg R q3) (rg R q22)) (.b (.l _ (SY lp G c k) (λR H n=>(rg R q0,rg R q3,rg R q22,H,n)) λih6=>.n)) .n)))))
theorem nR{lp:Ed}(hL:Cb lp)(G:AV):Io G 71 (YV (Xh lp G)):=
 .mk mg <| Yg hL (an:=mF lp G) (λ_ _=>obs (by kernel_rfl)) λc a0 H n k=>by kernel_rfl
def Ve:Ta:=λlp G c k=>(.s .n (.s .n (.j (λR=>Gt lp G c k (rg R q0) (rg R q1) (rg R q2) (rg R q6) (rg R q7)) (.b (.l _ (KJ lp G c k) (λR H n=>(rg R q0,rg R q1,rg R q2,rg R q6,rg R q7,rg R q8,H,n)) λih18=>.n)) (.s .n (.b (.l _ (KZ lp G c k) (λR H n=>(rg R q0,rg R q1,rg R q2,rg R q6,H,n)) λih3=>(.s .n (.b (.s .n (.j (λR=>La lp G c k ih3 (rg R q0) (rg R q1) (rg R q2) (rg R q6) (rg R q7)) (.b (.l _ (KH lp G c k ih3) (λR H n=>(rg R q0,rg R q1,rg R q2,rg R q6,rg R q7,rg R q8,H,n)) λih12=>.n)) (.j (λR=>Gy lp G c k ih3 (rg R q0) (rg R q1) (rg R q2) (rg R q6)) .n .n)))))))))))
theorem Vm{lp:Ed}(hL:Cb lp)(G:AV):Io G 72 (ar3 (OQ lp G)):=
 .mk Vj <| sf3 hL (an:=Ve lp G) (λ_ _=>obs (by kernel_rfl)) λc a0 a1 a2 H n k=>by kernel_rfl
def UY:Ta:=λlp G c k=>.n
theorem UL{lp:Ed}(hL:Cb lp)(G:AV):Io G 73 (Z7 (MI lp G)):=
 .mk Ud <| gU hL (an:=UY lp G) (λ_ _=>obs (by kernel_rfl)) λc a0 a1 H n k=>by kernel_rfl
def Uu:Ta:=λlp G c k=>(.s .n (.s .n (.j (λR=>GX lp G c k (rg R q0) (rg R q1) (rg R q2) (rg R q6) (rg R q7)) (.b (.l _ (Jj lp G c k) (λR H n=>(rg R q0,rg R q1,rg R q2,rg R q6,rg R q7,rg R q8,H,n)) λih18=>.n)) (.s .n (.b (.l _ (KI lp G c k) (λR H n=>(rg R q0,rg R q1,rg R q2,rg R q6,H,n)) λih3=>(.s .n (.b (.s .n (.j (λR=>KY lp G c k ih3 (rg R q0) (rg R q1) (rg R q2) (rg R q6) (rg R q7)) (.b (.l _ (Jp lp G c k ih3) (λR H n=>(rg R q0,rg R q1,rg R q2,rg R q6,rg R q7,rg R q8,H,n)) λih12=>.n)) (.j (λR=>GZ lp G c k ih3 (rg R q0) (rg R q1) (rg R q2) (rg R q6)) .n .n)))))))))))
theorem VP{lp:Ed}(hL:Cb lp)(G:AV):Io G 74 (ar3 (NW lp G)):=
 .mk Un <| sf3 hL (an:=Uu lp G) (λ_ _=>obs (by kernel_rfl)) λc a0 a1 a2 H n k=>by kernel_rfl
def nI:Ta:=λlp G c k=>.n
theorem mO{lp:Ed}(hL:Cb lp)(G:AV):Io G 75 (ar3 (Xd lp G)):=
 .mk mM <| sf3 hL (an:=nI lp G) (λ_ _=>obs (by kernel_rfl)) λc a0 a1 a2 H n k=>by kernel_rfl
def Uf:Ta:=λlp G c k=>.n
theorem Uc{lp:Ed}(hL:Cb lp)(G:AV):Io G 76 (YV (MV lp G)):=
 .mk Ue <| Yg hL (an:=Uf lp G) (λ_ _=>obs (by kernel_rfl)) λc a0 H n k=>by kernel_rfl
def ny:Ta:=λlp G c k=>(.s .n (.s .n (.j (λR=>BG lp G c k (rg R q3) (rg R q4)) (.s .n (.b (.s .n (.c .n (.j (λR=>GK lp G c k (rg R q0) (rg R q3) (rg R q4) (rg R q12) (rg R q19)) .n (.c .n (.s .n (.c .n (.s .n (.c .n (.s .n (.c .n (.j (λR=>DY lp G c k (rg R q0) (rg R q3) (rg R q4) (rg R q12) (rg R q65)) .n (.c .n (.s .n (.c .n (.s .n (.c (.j (λR=>I7 lp G c k (rg R q3) (rg R q4)) .n .n) (.s .n (.c (.j (λR=>I8 lp G c k (rg R q3) (rg R q4)) .n .n) .n)))))))))))))))))))) .n)))
theorem nX{lp:Ed}(hL:Cb lp)(G:AV):Io G 77 (Z7 (XB lp G)):=
 .mk nJ <| gU hL (an:=ny lp G) (λ_ _=>obs (by kernel_rfl)) λc a0 a1 H n k=>by kernel_rfl
def zy:Ta:=λlp G c k=>.n
theorem AAb{lp:Ed}(hL:Cb lp)(G:AV):Io G 78 (ar3 (bD lp G)):=
 .mk zh <| sf3 hL (an:=zy lp G) (λ_ _=>obs (by kernel_rfl)) λc a0 a1 a2 H n k=>by kernel_rfl
def jL:Ta:=λlp G c k=>(.s .n (.j (λR=>SH lp G c k) (.s .n (.b (.l _ (Rh lp G c k) (λR H n=>(rg R q0,rg R q5,rg R q9,rg R q10,rg R q11,H,n)) λih4=>.n))) .n))
theorem kF{lp:Ed}(hL:Cb lp)(G:AV):Io G 79 (ar3 (V6 lp G)):=
 .mk kT <| sf3 hL (an:=jL lp G) (λ_ _=>obs (by kernel_rfl)) λc a0 a1 a2 H n k=>by kernel_rfl
def ALs:Ta:=λlp G c k=>.n
theorem ADc{lp:Ed}(hL:Cb lp)(G:AV):Io G 80 (ar0 (zJ lp G)):=
 .mk AKT <| sf0 hL (an:=ALs lp G) (λ_ _=>obs (by kernel_rfl)) λc H n k=>by kernel_rfl
def UZ:Ta:=λlp G c k=>.n
theorem Uk{lp:Ed}(hL:Cb lp)(G:AV):Io G 81 (Z7 (L9 lp G)):=
 .mk UN <| gU hL (an:=UZ lp G) (λ_ _=>obs (by kernel_rfl)) λc a0 a1 H n k=>by kernel_rfl
def Uh:Ta:=λlp G c k=>.n
theorem UH{lp:Ed}(hL:Cb lp)(G:AV):Io G 82 (Z7 (NH lp G)):=
 .mk Ug <| gU hL (an:=Uh lp G) (λ_ _=>obs (by kernel_rfl)) λc a0 a1 H n k=>by kernel_rfl
def sF:Ta:=λlp G c k=>(.s .n (.j (λR=>Hu lp G c k (rg R q1)) .n .n))
theorem uF{lp:Ed}(hL:Cb lp)(G:AV):Io G 83 (YV (YO lp G)):=
 .mk vC <| Yg hL (an:=sF lp G) (λ_ _=>obs (by kernel_rfl)) λc a0 H n k=>by kernel_rfl
def qK:Ta:=λlp G c k=>(.s .n (.s .n (.j (λR=>Dn lp G c k (rg R q0) (rg R q2) (rg R q3)) .n .n)))
theorem qm{lp:Ed}(hL:Cb lp)(G:AV):Io G 84 (YV (Yb lp G)):=
 .mk uh <| Yg hL (an:=qK lp G) (λ_ _=>obs (by kernel_rfl)) λc a0 H n k=>by kernel_rfl
def Qr:Ta:=λlp G c k=>(.s .n (.b (.l _ (II lp G c k) (λR H n=>(rg R q0,rg R q1,rg R q2,rg R q3,rg R q8,H,n)) λih2=>(.s .n (.j (λR=>Di lp G c k ih2 (rg R q0) (rg R q1) (rg R q2) (rg R q3) (rg R q8)) (.b (.s .n (.b (.l _ (IJ lp G c k ih2) (λR H n=>(rg R q0,rg R q1,rg R q2,rg R q3,rg R q8,rg R q9,H,n)) λih6=>.n)))) .n)))))
theorem Qp{lp:Ed}(hL:Cb lp)(G:AV):Io G 85 (ar4 (JZ lp G)):=
 .mk Qs <| sf4 hL (an:=Qr lp G) (λ_ _=>obs (by kernel_rfl)) λc a0 a1 a2 a3 H n k=>by kernel_rfl
def Qa:Ta:=λlp G c k=>(.s .n (.b (.l _ (Hw lp G c k) (λR H n=>(rg R q0,rg R q1,rg R q2,rg R q3,rg R q8,H,n)) λih2=>(.s .n (.j (λR=>Dc lp G c k ih2 (rg R q0) (rg R q1) (rg R q2) (rg R q3) (rg R q8)) (.b (.s .n (.b (.l _ (Ht lp G c k ih2) (λR H n=>(rg R q0,rg R q1,rg R q2,rg R q3,rg R q8,rg R q9,H,n)) λih6=>.n)))) .n)))))
theorem QV{lp:Ed}(hL:Cb lp)(G:AV):Io G 88 (ar4 (JC lp G)):=
 .mk QW <| sf4 hL (an:=Qa lp G) (λ_ _=>obs (by kernel_rfl)) λc a0 a1 a2 a3 H n k=>by kernel_rfl
def mW:Ta:=λlp G c k=>(.s .n (.s .n (.j (λR=>OX lp G c k (rg R q0)) (.s .n (.b (.l _ (RY lp G c k) (λR H n=>(rg R q0,rg R q1,rg R q18,rg R q19,rg R q20,H,n)) λih18=>.n))) .n)))
theorem mP{lp:Ed}(hL:Cb lp)(G:AV):Io G 90 (Z7 (XQ lp G)):=
 .mk ou <| gU hL (an:=mW lp G) (λ_ _=>obs (by kernel_rfl)) λc a0 a1 H n k=>by kernel_rfl
def AGM:Ta:=λlp G c k=>.n
theorem AFx{lp:Ed}(hL:Cb lp)(G:AV):Io G 91 (ar0 (yG lp G)):=
 .mk AEc <| sf0 hL (an:=AGM lp G) (λ_ _=>obs (by kernel_rfl)) λc H n k=>by kernel_rfl
def iE:Ta:=λlp G c k=>(.s .n (.j (λR=>Dv lp G c k (rg R q0) (rg R q1) (rg R q4) (rg R q5)) .n (.s .n (.s .n (.s .n (.j (λR=>Ho lp G c k (rg R q1) (rg R q9) (rg R q10)) .n .n))))))
theorem gW{lp:Ed}(hL:Cb lp)(G:AV):Io G 92 (Z7 (VG lp G)):=
 .mk fC <| gU hL (an:=iE lp G) (λ_ _=>obs (by kernel_rfl)) λc a0 a1 H n k=>by kernel_rfl
def ACb:Ta:=λlp G c k=>.n
theorem ACW{lp:Ed}(hL:Cb lp)(G:AV):Io G 93 (YV (lW lp G)):=
 .mk ACw <| Yg hL (an:=ACb lp G) (λ_ _=>obs (by kernel_rfl)) λc a0 H n k=>by kernel_rfl
def nG:Ta:=λlp G c k=>(.b (.s .n (.c .n (.s .n (.c .n (.s .n (.c (.s .n (.j (λR=>Ee lp G c k (rg R q1)) .n .n)) .n)))))))
theorem Ib{lp:Ed}(hL:Cb lp)(G:AV):Io G 94 (Z7 (Gi lp G)):=
 .mk oC <| gU hL (an:=nG lp G) (λ_ _=>obs (by kernel_rfl)) λc a0 a1 H n k=>by kernel_rfl
def zG:Ta:=λlp G c k=>.n
theorem zk{lp:Ed}(hL:Cb lp)(G:AV):Io G 95 (YV (aV lp G)):=
 .mk zM <| Yg hL (an:=zG lp G) (λ_ _=>obs (by kernel_rfl)) λc a0 H n k=>by kernel_rfl
def xX:Ta:=λlp G c k=>.n
theorem xq{lp:Ed}(hL:Cb lp)(G:AV):Io G 96 (ar3 (Z4 lp G)):=
 .mk xJ <| sf3 hL (an:=xX lp G) (λ_ _=>obs (by kernel_rfl)) λc a0 a1 a2 H n k=>by kernel_rfl
def jU:Ta:=λlp G c k=>.n
theorem kN{lp:Ed}(hL:Cb lp)(G:AV):Io G 98 (YV (V3 lp G)):=
 .mk G8 <| Yg hL (an:=jU lp G) (λ_ _=>obs (by kernel_rfl)) λc a0 H n k=>by kernel_rfl
def uX:Ta:=λlp G c k=>.n
theorem ru{lp:Ed}(hL:Cb lp)(G:AV):Io G 99 (YV (Yi lp G)):=
 .mk qw <| Yg hL (an:=uX lp G) (λ_ _=>obs (by kernel_rfl)) λc a0 H n k=>by kernel_rfl
def jR:Ta:=λlp G c k=>(.s .n (.s .n (.s .n (.s .n (.s .n (.s .n (.j (λR=>EL lp G c k (rg R q2) (rg R q3) (rg R q37)) .n .n)))))))
theorem jo{lp:Ed}(hL:Cb lp)(G:AV):Io G 100 (YV (V4 lp G)):=
 .mk jM <| Yg hL (an:=jR lp G) (λ_ _=>obs (by kernel_rfl)) λc a0 H n k=>by kernel_rfl
def nD:Ta:=λlp G c k=>(.s .n (.s .n (.s (.s .n (.c (.j (λR=>Fz lp G c k) .n .n) .n)) (.j (λR=>GL lp G c k (rg R q0) (rg R q1)) .n .n))))
theorem nS{lp:Ed}(hL:Cb lp)(G:AV):Io G 101 (Z7 (Xo lp G)):=
 .mk og <| gU hL (an:=nD lp G) (λ_ _=>obs (by kernel_rfl)) λc a0 a1 H n k=>by kernel_rfl
def nZ:Ta:=λlp G c k=>(.s .n (.s .n (.s .n (.b (.l _ (Rj lp G c k) (λR H n=>(rg R q0,rg R q7,rg R q21,rg R q22,rg R q23,H,n)) λih13=>.n)))))
theorem nC{lp:Ed}(hL:Cb lp)(G:AV):Io G 104 (ar4 (Xg lp G)):=
 .mk o7 <| sf4 hL (an:=nZ lp G) (λ_ _=>obs (by kernel_rfl)) λc a0 a1 a2 a3 H n k=>by kernel_rfl
def kG:Ta:=λlp G c k=>(.s .n (.s .n (.j (λR=>NQ lp G c k (rg R q8) (rg R q9)) (.b (.l _ (RX lp G c k) (λR H n=>(rg R q0,rg R q1,rg R q2,rg R q3,rg R q8,rg R q9,H,n)) λih8=>.n)) .n)))
theorem jv{lp:Ed}(hL:Cb lp)(G:AV):Io G 105 (ar4 (WA lp G)):=
 .mk ji <| sf4 hL (an:=kG lp G) (λ_ _=>obs (by kernel_rfl)) λc a0 a1 a2 a3 H n k=>by kernel_rfl
def jB:Ta:=λlp G c k=>.n
theorem jy{lp:Ed}(hL:Cb lp)(G:AV):Io G 106 (YV (WL lp G)):=
 .mk jF <| Yg hL (an:=jB lp G) (λ_ _=>obs (by kernel_rfl)) λc a0 H n k=>by kernel_rfl
def cZ:Ta:=λlp G c k=>(.s .n (.s .n (.s .n (.j (λR=>FC lp G c k (rg R q2) (rg R q4)) .n .n))))
theorem dR{lp:Ed}(hL:Cb lp)(G:AV):Io G 107 (YV (Tq lp G)):=
 .mk dU <| Yg hL (an:=cZ lp G) (λ_ _=>obs (by kernel_rfl)) λc a0 H n k=>by kernel_rfl
def Zw:Ta:=λlp G c k=>.n
theorem Za{lp:Ed}(hL:Cb lp)(G:AV):Io G 110 (YV (Ri lp G)):=
 .mk ZX <| Yg hL (an:=Zw lp G) (λ_ _=>obs (by kernel_rfl)) λc a0 H n k=>by kernel_rfl
def oW:Ta:=λlp G c k=>(.s .n (.s .n (.j (λR=>OY lp G c k (rg R q6) (rg R q7)) (.b (.l _ (SI lp G c k) (λR H n=>(rg R q0,rg R q1,rg R q2,rg R q6,rg R q7,H,n)) λih8=>.n)) .n)))
theorem oM{lp:Ed}(hL:Cb lp)(G:AV):Io G 111 (ar3 (XP lp G)):=
 .mk mV <| sf3 hL (an:=oW lp G) (λ_ _=>obs (by kernel_rfl)) λc a0 a1 a2 H n k=>by kernel_rfl
def X3:Ta:=λlp G c k=>.n
theorem Xx{lp:Ed}(hL:Cb lp)(G:AV):Io G 112 (YV (QE lp G)):=
 .mk Xz <| Yg hL (an:=X3 lp G) (λ_ _=>obs (by kernel_rfl)) λc a0 H n k=>by kernel_rfl
def nP:Ta:=λlp G c k=>(.s .n (.s .n (.j (λR=>JA lp G c k (rg R q0) (rg R q2) (rg R q63)) (.s .n (.b (.l _ (RU lp G c k) (λR H n=>(rg R q0,rg R q2,rg R q3,rg R q16,rg R q17,rg R q18,rg R q63,H,n)) λih37=>.n))) (.s .n (.j (λR=>NK lp G c k (rg R q2) (rg R q6) (rg R q63)) (.b (.l _ (Rl lp G c k) (λR H n=>(rg R q0,rg R q2,rg R q6,rg R q63,H,n)) λih17=>(.s .n (.b (.s .n (.s .n (.j (λR=>Fh lp G c k ih17 (rg R q0) (rg R q2) (rg R q6) (rg R q7) (rg R q8) (rg R q63)) .n .n))))))) .n)))))
theorem mX{lp:Ed}(hL:Cb lp)(G:AV):Io G 113 (YV (Xk lp G)):=
 .mk mQ <| Yg hL (an:=nP lp G) (λ_ _=>obs (by kernel_rfl)) λc a0 H n k=>by kernel_rfl
def oI:Ta:=λlp G c k=>(.s .n (.s .n (.b (.l _ (SG lp G c k) (λR H n=>(rg R q0,rg R q2,rg R q3,H,n)) λih5=>.n))))
theorem oz{lp:Ed}(hL:Cb lp)(G:AV):Io G 114 (YV (Xu lp G)):=
 .mk oh <| Yg hL (an:=oI lp G) (λ_ _=>obs (by kernel_rfl)) λc a0 H n k=>by kernel_rfl
def qL:Ta:=λlp G c k=>(.s .n (.s .n (.s .n (.j (λR=>BI lp G c k (rg R q2) (rg R q4)) .n .n))))
theorem su{lp:Ed}(hL:Cb lp)(G:AV):Io G 115 (YV (Ya lp G)):=
 .mk qU <| Yg hL (an:=qL lp G) (λ_ _=>obs (by kernel_rfl)) λc a0 H n k=>by kernel_rfl
def kX:Ta:=λlp G c k=>.n
theorem jY{lp:Ed}(hL:Cb lp)(G:AV):Io G 116 (ar3 (WI lp G)):=
 .mk jJ <| sf3 hL (an:=kX lp G) (λ_ _=>obs (by kernel_rfl)) λc a0 a1 a2 H n k=>by kernel_rfl
def rF:Ta:=λlp G c k=>(.s .n (.s .n (.s .n (.j (λR=>KC lp G c k (rg R q3)) (.b (.l _ (UA lp G c k) (λR H n=>(rg R q0,rg R q3,H,n)) λih4=>(.s .n (.b (.j (λR=>Gj lp G c k ih4 (rg R q0) (rg R q3)) .n .n))))) .n))))
theorem rP{lp:Ed}(hL:Cb lp)(G:AV):Io G 117 (YV (YW lp G)):=
 .mk sQ <| Yg hL (an:=rF lp G) (λ_ _=>obs (by kernel_rfl)) λc a0 H n k=>by kernel_rfl
theorem go0{G:AV}{f:Nat}{s:BD->Heap->Nat->KV->Prop}{H:Heap}{n:Nat}{k:KV}(z:Io G f (ar0 s))(h:s (Runs F G) H n k):Runs F G f [] H n k:=by
 obtain⟨p,o⟩:=z
 exact AE0 p o h
theorem go1{G:AV}{f:Nat}{s:BD->V->Heap->Nat->KV->Prop}{a0:V}{H:Heap}{n:Nat}{k:KV}(z:Io G f (YV s))(h:s (Runs F G) a0 H n k):Runs F G f [a0] H n k:=by
 obtain⟨p,o⟩:=z
 exact AE0 p o h
theorem go2{G:AV}{f:Nat}{s:BD->V->V->Heap->Nat->KV->Prop}{a0 a1:V}{H:Heap}{n:Nat}{k:KV}(z:Io G f (Z7 s))(h:s (Runs F G) a0 a1 H n k):Runs F G f [a0,a1] H n k:=by
 obtain⟨p,o⟩:=z
 exact AE0 p o h
theorem go3{G:AV}{f:Nat}{s:BD->V->V->V->Heap->Nat->KV->Prop}{a0 a1 a2:V}{H:Heap}{n:Nat}{k:KV}(z:Io G f (ar3 s))(h:s (Runs F G) a0 a1 a2 H n k):Runs F G f [a0,a1,a2] H n k:=by
 obtain⟨p,o⟩:=z
 exact AE0 p o h
theorem go4{G:AV}{f:Nat}{s:BD->V->V->V->V->Heap->Nat->KV->Prop}{a0 a1 a2 a3:V}{H:Heap}{n:Nat}{k:KV}(z:Io G f (ar4 s))(h:s (Runs F G) a0 a1 a2 a3 H n k):Runs F G f [a0,a1,a2,a3] H n k:=by
 obtain⟨p,o⟩:=z
 exact AE0 p o h
end Go.RL
