/- Part of a proof; nothing is assumed. -/
import Derived.Test.YtcjkfmaoahojeaaDoorPlain
import Derived.Test.YtcjkfmaoahojeaaDoorCode
import Derived.Test.YtcjkfmaoahojeaaDoorEngE
set_option linter.unusedVariables false
set_option linter.unusedSimpArgs false
noncomputable section
namespace Go.PQ
open Go.Eng
set_option maxRecDepth 100000
abbrev Ta:=Ho->AY->BN->KV->An
inductive Nh(G:AY)(n:Nat)(s:SF):Prop where
 |mk {af:AF} (h:T.get F n=some af) (o:AHY G af s):Nh G n s
def Zn:Ta:=λlp G c k=>.n
theorem Z7{lp:Ho}(hL:EP lp)(G:AY):Nh G 8 (IQ (Ji lp G)):=
 .mk NU <| Yc hL (an:=Zn lp G) (λ_ _=>obs (by kernel_rfl)) λc a0 H n k=>by kernel_rfl
def sS:Ta:=λlp G c k=>.n
theorem rF{lp:Ho}(hL:EP lp)(G:AY):Nh G 9 (ar0 (QN lp G)):=
 .mk Tn <| sf0 hL (an:=sS lp G) (λ_ _=>obs (by kernel_rfl)) λc H n k=>by kernel_rfl
def ABK:Ta:=λlp G c k=>.n
theorem AAu{lp:Ho}(hL:EP lp)(G:AY):Nh G 10 (IQ (Vg lp G)):=
 .mk YC <| Yc hL (an:=ABK lp G) (λ_ _=>obs (by kernel_rfl)) λc a0 H n k=>by kernel_rfl
def xq:Ta:=λlp G c k=>.n
theorem wB{lp:Ho}(hL:EP lp)(G:AY):Nh G 15 (IQ (Rf lp G)):=
 .mk U2 <| Yc hL (an:=xq lp G) (λ_ _=>obs (by kernel_rfl)) λc a0 H n k=>by kernel_rfl
def xG:Ta:=λlp G c k=>.n
theorem xZ{lp:Ho}(hL:EP lp)(G:AY):Nh G 19 (IQ (Rx lp G)):=
 .mk U6 <| Yc hL (an:=xG lp G) (λ_ _=>obs (by kernel_rfl)) λc a0 H n k=>by kernel_rfl
def jc:Ta:=λlp G c k=>.n
theorem mD{lp:Ho}(hL:EP lp)(G:AY):Nh G 20 (RG (ND lp G)):=
 .mk Pm <| zM hL (an:=jc lp G) (λ_ _=>obs (by kernel_rfl)) λc a0 a1 H n k=>by kernel_rfl
def wO:Ta:=λlp G c k=>.n
theorem vW{lp:Ho}(hL:EP lp)(G:AY):Nh G 21 (RG (Rq lp G)):=
 .mk VE <| zM hL (an:=wO lp G) (λ_ _=>obs (by kernel_rfl)) λc a0 a1 H n k=>by kernel_rfl
def sZ:Ta:=λlp G c k=>(.s .n (.s .n (.s .n (.j (λR=>Hf lp G c k (rg R q1) (rg R q3)) .n (.s .n (.j (λR=>NG lp G c k (rg R q1) (rg R q3)) (.s .n (.b (.l _ (Uu lp G c k) (λR H n=>(rg R q1,rg R q3,rg R q21,rg R q22,rg R q23,H,n)) λih34=>.n))) (.j (λR=>Kz lp G c k (rg R q3)) (.s .n (.b (.l _ (Ur lp G c k) (λR H n=>(rg R q3,rg R q39,rg R q40,rg R q41,H,n)) λih16=>.n))) .n)))))))
theorem tZ{lp:Ho}(hL:EP lp)(G:AY):Nh G 22 (IQ (QU lp G)):=
 .mk UJ <| Yc hL (an:=sZ lp G) (λ_ _=>obs (by kernel_rfl)) λc a0 H n k=>by kernel_rfl
def rY:Ta:=λlp G c k=>.n
theorem tH{lp:Ho}(hL:EP lp)(G:AY):Nh G 23 (RG (QG lp G)):=
 .mk UH <| zM hL (an:=rY lp G) (λ_ _=>obs (by kernel_rfl)) λc a0 a1 H n k=>by kernel_rfl
def AG4:Ta:=λlp G c k=>(.s .n (.s .n (.s .n (.s .n (.b (.l _ (kJ lp G c k) (λR H n=>(rg R q3,rg R q4,rg R q5,H,n)) λih12=>.n))))))
theorem AIP{lp:Ho}(hL:EP lp)(G:AY):Nh G 24 (IQ (nI lp G)):=
 .mk pU <| Yc hL (an:=AG4 lp G) (λ_ _=>obs (by kernel_rfl)) λc a0 H n k=>by kernel_rfl
def iP:Ta:=λlp G c k=>(.s .n (.s .n (.s .n (.s .n (.j (λR=>F9 lp G c k (rg R q0) (rg R q2) (rg R q3)) .n (.s .n (.j (λR=>Ie lp G c k (rg R q0) (rg R q2) (rg R q3)) (.b (.l _ (Qe lp G c k) (λR H n=>(rg R q0,rg R q2,rg R q3,H,n)) λih34=>.n)) (.j (λR=>Fq lp G c k (rg R q2) (rg R q3)) .n .n))))))))
theorem iR{lp:Ho}(hL:EP lp)(G:AY):Nh G 25 (IQ (Ku lp G)):=
 .mk Oc <| Yc hL (an:=iP lp G) (λ_ _=>obs (by kernel_rfl)) λc a0 H n k=>by kernel_rfl
def qc:Ta:=λlp G c k=>.n
theorem qj{lp:Ho}(hL:EP lp)(G:AY):Nh G 26 (IQ (Ou lp G)):=
 .mk SX <| Yc hL (an:=qc lp G) (λ_ _=>obs (by kernel_rfl)) λc a0 H n k=>by kernel_rfl
def V3:Ta:=λlp G c k=>(.s .n (.s (.s .n (.c (.s .n (.s .n (.s .n (.j (λR=>E8 lp G c k (rg R q0) (rg R q5) (rg R q6)) .n .n)))) .n)) .n))
theorem V8{lp:Ho}(hL:EP lp)(G:AY):Nh G 29 (RG (GV lp G)):=
 .mk I9 <| zM hL (an:=V3 lp G) (λ_ _=>obs (by kernel_rfl)) λc a0 a1 H n k=>by kernel_rfl
def JJ:Ta:=λlp G c k=>(.s .n (.s .n (.j (λR=>DN lp G c k) (.s .n (.b (.l _ (EM lp G c k) (λR H n=>(rg R q1,rg R q2,rg R q15,rg R q16,rg R q17,H,n)) λih6=>.n))) .n)))
theorem JF{lp:Ho}(hL:EP lp)(G:AY):Nh G 30 (ar3 (CP lp G)):=
 .mk DY <| sf3 hL (an:=JJ lp G) (λ_ _=>obs (by kernel_rfl)) λc a0 a1 a2 H n k=>by kernel_rfl
def pz:Ta:=λlp G c k=>(.s .n (.s .n (.j (λR=>Gi lp G c k (rg R q1) (rg R q3)) .n (.s .n (.j (λR=>LW lp G c k (rg R q1) (rg R q3) (rg R q4)) (.s .n (.b (.l _ (Tt lp G c k) (λR H n=>(rg R q1,rg R q3,rg R q4,rg R q10,rg R q11,rg R q12,H,n)) λih19=>.n))) .n)))))
theorem pR{lp:Ho}(hL:EP lp)(G:AY):Nh G 32 (IQ (Om lp G)):=
 .mk SE <| Yc hL (an:=pz lp G) (λ_ _=>obs (by kernel_rfl)) λc a0 H n k=>by kernel_rfl
def AD1:Ta:=λlp G c k=>(.s .n (.s .n (.s .n (.j (λR=>UE lp G c k (rg R q1) (rg R q5)) (.s .n (.b (.l _ (gq lp G c k) (λR H n=>(rg R q1,rg R q5,rg R q9,rg R q10,rg R q11,H,n)) λih9=>.n))) .n))))
theorem ADo{lp:Ho}(hL:EP lp)(G:AY):Nh G 33 (RG (Yf lp G)):=
 .mk au <| zM hL (an:=AD1 lp G) (λ_ _=>obs (by kernel_rfl)) λc a0 a1 H n k=>by kernel_rfl
def Uc:Ta:=λlp G c k=>(.s .n (.s .n (.j (λR=>Gp lp G c k) (.s .n (.b (.l _ (Jv lp G c k) (λR H n=>(rg R q0,rg R q1,rg R q12,rg R q13,H,n)) λih6=>.n))) .n)))
theorem Uh{lp:Ho}(hL:EP lp)(G:AY):Nh G 35 (RG (FI lp G)):=
 .mk Hy <| zM hL (an:=Uc lp G) (λ_ _=>obs (by kernel_rfl)) λc a0 a1 H n k=>by kernel_rfl
def Gu:Ta:=λlp G c k=>(.s .n (.s .n (.j (λR=>CV lp G c k) (.s .n (.b (.l _ (Dw lp G c k) (λR H n=>(rg R q1,rg R q2,rg R q15,rg R q16,rg R q17,H,n)) λih6=>.n))) .n)))
theorem Gw{lp:Ho}(hL:EP lp)(G:AY):Nh G 36 (ar3 (BX lp G)):=
 .mk CZ <| sf3 hL (an:=Gu lp G) (λ_ _=>obs (by kernel_rfl)) λc a0 a1 a2 H n k=>by kernel_rfl
def oq:Ta:=λlp G c k=>.n
theorem qM{lp:Ho}(hL:EP lp)(G:AY):Nh G 37 (RG (Ox lp G)):=
 .mk Si <| zM hL (an:=oq lp G) (λ_ _=>obs (by kernel_rfl)) λc a0 a1 H n k=>by kernel_rfl
def sQ:Ta:=λlp G c k=>(.b (.l _ (V4 lp G c k) (λR H n=>(rg R q0,H,n)) λih1=>(.s .n (.b (.s .n (.b (.s .n (.c .n (.s .n (.c (.s .n (.j (λR=>FD lp G c k ih1 (rg R q0) (rg R q3)) .n .n)) .n))))))))))
theorem uP{lp:Ho}(hL:EP lp)(G:AY):Nh G 38 (IQ (P9 lp G)):=
 .mk UN <| Yc hL (an:=sQ lp G) (λ_ _=>obs (by kernel_rfl)) λc a0 H n k=>by kernel_rfl
def uS:Ta:=λlp G c k=>(.s .n (.s .n (.s .n (.s .n (.j (λR=>Dp lp G c k (rg R q0) (rg R q2) (rg R q4)) (.b (.s .n (.c .n (.s .n (.c .n (.s .n (.c .n (.s .n (.b (.l _ (Us lp G c k) (λR H n=>(rg R q0,rg R q2,rg R q4,rg R q34,rg R q35,H,n)) λih81=>.n)))))))))) .n)))))
theorem vG{lp:Ho}(hL:EP lp)(G:AY):Nh G 39 (IQ (QM lp G)):=
 .mk TR <| Yc hL (an:=uS lp G) (λ_ _=>obs (by kernel_rfl)) λc a0 H n k=>by kernel_rfl
def l9:Ta:=λlp G c k=>(.s .n (.b (.l _ (S9 lp G c k) (λR H n=>(rg R q0,rg R q6,rg R q7,rg R q8,H,n)) λih2=>(.s .n (.s .n (.j (λR=>G9 lp G c k ih2 (rg R q0) (rg R q6) (rg R q7) (rg R q8)) .n .n))))))
theorem jQ{lp:Ho}(hL:EP lp)(G:AY):Nh G 40 (RG (MJ lp G)):=
 .mk PI <| zM hL (an:=l9 lp G) (λ_ _=>obs (by kernel_rfl)) λc a0 a1 H n k=>by kernel_rfl
def lN:Ta:=λlp G c k=>.n
theorem lU{lp:Ho}(hL:EP lp)(G:AY):Nh G 41 (RG (MW lp G)):=
 .mk Pj <| zM hL (an:=lN lp G) (λ_ _=>obs (by kernel_rfl)) λc a0 a1 H n k=>by kernel_rfl
def je:Ta:=λlp G c k=>.n
theorem jH{lp:Ho}(hL:EP lp)(G:AY):Nh G 42 (RG (MQ lp G)):=
 .mk Pv <| zM hL (an:=je lp G) (λ_ _=>obs (by kernel_rfl)) λc a0 a1 H n k=>by kernel_rfl
def nT:Ta:=λlp G c k=>(.s .n (.s .n (.j (λR=>IK lp G c k (rg R q2) (rg R q3)) .n .n)))
theorem nZ{lp:Ho}(hL:EP lp)(G:AY):Nh G 43 (IQ (N9 lp G)):=
 .mk Qn <| Yc hL (an:=nT lp G) (λ_ _=>obs (by kernel_rfl)) λc a0 H n k=>by kernel_rfl
def kF:Ta:=λlp G c k=>.n
theorem kK{lp:Ho}(hL:EP lp)(G:AY):Nh G 44 (RG (NK lp G)):=
 .mk PU <| zM hL (an:=kF lp G) (λ_ _=>obs (by kernel_rfl)) λc a0 a1 H n k=>by kernel_rfl
def qY:Ta:=λlp G c k=>(.s .n (.j (λR=>PY lp G c k) (.s .n (.b (.l _ (Um lp G c k) (λR H n=>(rg R q0,rg R q7,rg R q8,rg R q9,H,n)) λih3=>.n))) .n))
theorem qQ{lp:Ho}(hL:EP lp)(G:AY):Nh G 45 (RG (Oq lp G)):=
 .mk SQ <| zM hL (an:=qY lp G) (λ_ _=>obs (by kernel_rfl)) λc a0 a1 H n k=>by kernel_rfl
def bW:Ta:=λlp G c k=>(.s .n (.s .n (.s .n (.s .n (.s .n (.s .n (.s .n (.j (λR=>II lp G c k (rg R q0) (rg R q2) (rg R q4)) (.b (.l _ (Pq lp G c k) (λR H n=>(rg R q0,rg R q2,rg R q4,H,n)) λih31=>(.s .n (.b (.j (λR=>FQ lp G c k ih31 (rg R q0) (rg R q2) (rg R q4)) .n .n))))) .n))))))))
theorem bY{lp:Ho}(hL:EP lp)(G:AY):Nh G 46 (IQ (J3 lp G)):=
 .mk N7 <| Yc hL (an:=bW lp G) (λ_ _=>obs (by kernel_rfl)) λc a0 H n k=>by kernel_rfl
def jS:Ta:=λlp G c k=>.n
theorem jR{lp:Ho}(hL:EP lp)(G:AY):Nh G 47 (RG (NJ lp G)):=
 .mk PV <| zM hL (an:=jS lp G) (λ_ _=>obs (by kernel_rfl)) λc a0 a1 H n k=>by kernel_rfl
def YW:Ta:=λlp G c k=>.n
theorem YZ{lp:Ho}(hL:EP lp)(G:AY):Nh G 48 (IQ (Ii lp G)):=
 .mk KR <| Yc hL (an:=YW lp G) (λ_ _=>obs (by kernel_rfl)) λc a0 H n k=>by kernel_rfl
def Vl:Ta:=λlp G c k=>.n
theorem Vo{lp:Ho}(hL:EP lp)(G:AY):Nh G 49 (IQ (GN lp G)):=
 .mk JD <| Yc hL (an:=Vl lp G) (λ_ _=>obs (by kernel_rfl)) λc a0 H n k=>by kernel_rfl
def TU:Ta:=λlp G c k=>(.s .n (.j (λR=>Ee lp G c k (rg R q0) (rg R q1) (rg R q4)) (.b (.l _ (Jb lp G c k) (λR H n=>(rg R q0,rg R q1,rg R q4,H,n)) λih51=>.n)) (.s .n (.j (λR=>Dx lp G c k (rg R q0) (rg R q4) (rg R q12)) .n (.j (λR=>Dy lp G c k (rg R q0) (rg R q4) (rg R q12)) .n .n)))))
theorem UO{lp:Ho}(hL:EP lp)(G:AY):Nh G 50 (RG (E5 lp G)):=
 .mk G5 <| zM hL (an:=TU lp G) (λ_ _=>obs (by kernel_rfl)) λc a0 a1 H n k=>by kernel_rfl
def xB:Ta:=λlp G c k=>(.s .n (.s .n (.s (.s .n (.b (.s .n (.c .n (.s .n (.c .n (.s .n (.c (.s .n (.j (λR=>Jc lp G c k (rg R q6)) .n .n)) .n)))))))) .n)))
theorem Gg{lp:Ho}(hL:EP lp)(G:AY):Nh G 54 (RG (BI lp G)):=
 .mk CW <| zM hL (an:=xB lp G) (λ_ _=>obs (by kernel_rfl)) λc a0 a1 H n k=>by kernel_rfl
def JI:Ta:=λlp G c k=>(.s .n (.s .n (.j (λR=>DR lp G c k) (.s .n (.b (.l _ (EO lp G c k) (λR H n=>(rg R q1,rg R q2,rg R q15,rg R q16,rg R q17,H,n)) λih6=>.n))) .n)))
theorem JH{lp:Ho}(hL:EP lp)(G:AY):Nh G 56 (ar3 (CO lp G)):=
 .mk DW <| sf3 hL (an:=JI lp G) (λ_ _=>obs (by kernel_rfl)) λc a0 a1 a2 H n k=>by kernel_rfl
def wZ:Ta:=λlp G c k=>.n
theorem wo{lp:Ho}(hL:EP lp)(G:AY):Nh G 57 (RG (Ri lp G)):=
 .mk VW <| zM hL (an:=wZ lp G) (λ_ _=>obs (by kernel_rfl)) λc a0 a1 H n k=>by kernel_rfl
def uJ:Ta:=λlp G c k=>(.s .n (.b (.l _ (V9 lp G c k) (λR H n=>(rg R q0,rg R q4,rg R q5,H,n)) λih1=>(.s .n (.s .n (.s (.b (.s .n (.j (λR=>Ir lp G c k ih1 (rg R q0) (rg R q4) (rg R q5)) .n .n))) .n))))))
theorem sF{lp:Ho}(hL:EP lp)(G:AY):Nh G 58 (RG (QT lp G)):=
 .mk TW <| zM hL (an:=uJ lp G) (λ_ _=>obs (by kernel_rfl)) λc a0 a1 H n k=>by kernel_rfl
def jL:Ta:=λlp G c k=>.n
theorem jC{lp:Ho}(hL:EP lp)(G:AY):Nh G 59 (RG (ML lp G)):=
 .mk Pg <| zM hL (an:=jL lp G) (λ_ _=>obs (by kernel_rfl)) λc a0 a1 H n k=>by kernel_rfl
def lX:Ta:=λlp G c k=>.n
theorem lu{lp:Ho}(hL:EP lp)(G:AY):Nh G 60 (RG (NC lp G)):=
 .mk PX <| zM hL (an:=lX lp G) (λ_ _=>obs (by kernel_rfl)) λc a0 a1 H n k=>by kernel_rfl
def ADa:Ta:=λlp G c k=>.n
theorem AEc{lp:Ho}(hL:EP lp)(G:AY):Nh G 61 (IQ (Yz lp G)):=
 .mk eP <| Yc hL (an:=ADa lp G) (λ_ _=>obs (by kernel_rfl)) λc a0 H n k=>by kernel_rfl
def wR:Ta:=λlp G c k=>(.s .n (.s .n (.j (λR=>Ny lp G c k (rg R q0) (rg R q5)) (.b (.l _ (WC lp G c k) (λR H n=>(rg R q0,rg R q1,rg R q5,H,n)) λih13=>.n)) .n)))
theorem wY{lp:Ho}(hL:EP lp)(G:AY):Nh G 62 (RG (Ru lp G)):=
 .mk U3 <| zM hL (an:=wR lp G) (λ_ _=>obs (by kernel_rfl)) λc a0 a1 H n k=>by kernel_rfl
def AEK:Ta:=λlp G c k=>.n
theorem ADG{lp:Ho}(hL:EP lp)(G:AY):Nh G 63 (IQ (Y7 lp G)):=
 .mk ak <| Yc hL (an:=AEK lp G) (λ_ _=>obs (by kernel_rfl)) λc a0 H n k=>by kernel_rfl
def AEA:Ta:=λlp G c k=>.n
theorem ADr{lp:Ho}(hL:EP lp)(G:AY):Nh G 64 (IQ (Yx lp G)):=
 .mk bf <| Yc hL (an:=AEA lp G) (λ_ _=>obs (by kernel_rfl)) λc a0 H n k=>by kernel_rfl
def ADm:Ta:=λlp G c k=>(.s .n (.s (.s .n (.b (.j (λR=>BR lp G c k (rg R q4)) .n .n))) .n))
theorem ADN{lp:Ho}(hL:EP lp)(G:AY):Nh G 65 (IQ (ZC lp G)):=
 .mk bJ <| Yc hL (an:=ADm lp G) (λ_ _=>obs (by kernel_rfl)) λc a0 H n k=>by kernel_rfl
def ADi:Ta:=λlp G c k=>.n
theorem ADz{lp:Ho}(hL:EP lp)(G:AY):Nh G 66 (IQ (Y9 lp G)):=
 .mk eF <| Yc hL (an:=ADi lp G) (λ_ _=>obs (by kernel_rfl)) λc a0 H n k=>by kernel_rfl
def AB3:Ta:=λlp G c k=>(.s .n (.s .n (.j (λR=>XA lp G c k (rg R q4)) (.s .n (.b (.l _ (aS lp G c k) (λR H n=>(rg R q4,rg R q8,rg R q9,rg R q10,H,n)) λih4=>.n))) .n)))
theorem ACB{lp:Ho}(hL:EP lp)(G:AY):Nh G 67 (IQ (Xk lp G)):=
 .mk ZK <| Yc hL (an:=AB3 lp G) (λ_ _=>obs (by kernel_rfl)) λc a0 H n k=>by kernel_rfl
def mO:Ta:=λlp G c k=>(.s .n (.s .n (.j (λR=>Gy lp G c k (rg R q2) (rg R q3)) .n .n)))
theorem jr{lp:Ho}(hL:EP lp)(G:AY):Nh G 68 (IQ (MR lp G)):=
 .mk Py <| Yc hL (an:=mO lp G) (λ_ _=>obs (by kernel_rfl)) λc a0 H n k=>by kernel_rfl
def mF:Ta:=λlp G c k=>.n
theorem jo{lp:Ho}(hL:EP lp)(G:AY):Nh G 69 (IQ (NH lp G)):=
 .mk PD <| Yc hL (an:=mF lp G) (λ_ _=>obs (by kernel_rfl)) λc a0 H n k=>by kernel_rfl
def iV:Ta:=λlp G c k=>(.s .n (.s .n (.s .n (.s .n (.j (λR=>JU lp G c k (rg R q3) (rg R q22)) (.b (.l _ (Q7 lp G c k) (λR H n=>(rg R q0,rg R q3,rg R q22,H,n)) λih6=>.n)) .n)))))
theorem iq{lp:Ho}(hL:EP lp)(G:AY):Nh G 70 (IQ (Kv lp G)):=
 .mk Oe <| Yc hL (an:=iV lp G) (λ_ _=>obs (by kernel_rfl)) λc a0 H n k=>by kernel_rfl
def V7:Ta:=λlp G c k=>.n
theorem Vq{lp:Ho}(hL:EP lp)(G:AY):Nh G 71 (IQ (GU lp G)):=
 .mk Iy <| Yc hL (an:=V7 lp G) (λ_ _=>obs (by kernel_rfl)) λc a0 H n k=>by kernel_rfl
def pG:Ta:=λlp G c k=>(.s .n (.j (λR=>I5 lp G c k (rg R q0) (rg R q2)) .n (.j (λR=>I7 lp G c k (rg R q0) (rg R q2)) .n (.j (λR=>JB lp G c k (rg R q0) (rg R q2)) .n .n))))
theorem qH{lp:Ho}(hL:EP lp)(G:AY):Nh G 72 (IQ (Ov lp G)):=
 .mk SN <| Yc hL (an:=pG lp G) (λ_ _=>obs (by kernel_rfl)) λc a0 H n k=>by kernel_rfl
def WO:Ta:=λlp G c k=>.n
theorem Vs{lp:Ho}(hL:EP lp)(G:AY):Nh G 73 (IQ (GK lp G)):=
 .mk I8 <| Yc hL (an:=WO lp G) (λ_ _=>obs (by kernel_rfl)) λc a0 H n k=>by kernel_rfl
def wV:Ta:=λlp G c k=>.n
theorem vU{lp:Ho}(hL:EP lp)(G:AY):Nh G 78 (RG (RZ lp G)):=
 .mk VD <| zM hL (an:=wV lp G) (λ_ _=>obs (by kernel_rfl)) λc a0 a1 H n k=>by kernel_rfl
def TI:Ta:=λlp G c k=>.n
theorem TM{lp:Ho}(hL:EP lp)(G:AY):Nh G 81 (RG (Et lp G)):=
 .mk Gm <| zM hL (an:=TI lp G) (λ_ _=>obs (by kernel_rfl)) λc a0 a1 H n k=>by kernel_rfl
def TD:Ta:=λlp G c k=>.n
theorem TF{lp:Ho}(hL:EP lp)(G:AY):Nh G 82 (RG (Eu lp G)):=
 .mk Gn <| zM hL (an:=TD lp G) (λ_ _=>obs (by kernel_rfl)) λc a0 a1 H n k=>by kernel_rfl
def AGz:Ta:=λlp G c k=>.n
theorem AIE{lp:Ho}(hL:EP lp)(G:AY):Nh G 83 (ar0 (nJ lp G)):=
 .mk pV <| sf0 hL (an:=AGz lp G) (λ_ _=>obs (by kernel_rfl)) λc H n k=>by kernel_rfl
def AGF:Ta:=λlp G c k=>.n
theorem AF3{lp:Ho}(hL:EP lp)(G:AY):Nh G 84 (ar0 (bH lp G)):=
 .mk jA <| sf0 hL (an:=AGF lp G) (λ_ _=>obs (by kernel_rfl)) λc H n k=>by kernel_rfl
def AKu:Ta:=λlp G c k=>.n
theorem AKC{lp:Ho}(hL:EP lp)(G:AY):Nh G 85 (IQ (rX lp G)):=
 .mk vZ <| Yc hL (an:=AKu lp G) (λ_ _=>obs (by kernel_rfl)) λc a0 H n k=>by kernel_rfl
def jG:Ta:=λlp G c k=>(.s .n (.j (λR=>He lp G c k (rg R q1)) .n .n))
theorem jV{lp:Ho}(hL:EP lp)(G:AY):Nh G 86 (IQ (MX lp G)):=
 .mk Pz <| Yc hL (an:=jG lp G) (λ_ _=>obs (by kernel_rfl)) λc a0 H n k=>by kernel_rfl
def ku:Ta:=λlp G c k=>(.s .n (.s .n (.j (λR=>Dz lp G c k (rg R q0) (rg R q2) (rg R q3)) .n .n)))
theorem lV{lp:Ho}(hL:EP lp)(G:AY):Nh G 87 (IQ (MZ lp G)):=
 .mk Px <| Yc hL (an:=ku lp G) (λ_ _=>obs (by kernel_rfl)) λc a0 H n k=>by kernel_rfl
def wF:Ta:=λlp G c k=>.n
theorem Bf{lp:Ho}(hL:EP lp)(G:AY):Nh G 91 (IQ (AX lp G)):=
 .mk Ac <| Yc hL (an:=wF lp G) (λ_ _=>obs (by kernel_rfl)) λc a0 H n k=>by kernel_rfl
def dh:Ta:=λlp G c k=>.n
theorem cZ{lp:Ho}(hL:EP lp)(G:AY):Nh G 95 (IQ (KG lp G)):=
 .mk Ec <| Yc hL (an:=dh lp G) (λ_ _=>obs (by kernel_rfl)) λc a0 H n k=>by kernel_rfl
def kT:Ta:=λlp G c k=>.n
theorem kW{lp:Ho}(hL:EP lp)(G:AY):Nh G 96 (IQ (MK lp G)):=
 .mk PG <| Yc hL (an:=kT lp G) (λ_ _=>obs (by kernel_rfl)) λc a0 H n k=>by kernel_rfl
def bV:Ta:=λlp G c k=>(.s .n (.s .n (.s .n (.s .n (.s .n (.s .n (.j (λR=>Ea lp G c k (rg R q2) (rg R q3) (rg R q37)) .n .n)))))))
theorem eu{lp:Ho}(hL:EP lp)(G:AY):Nh G 97 (IQ (KL lp G)):=
 .mk OA <| Yc hL (an:=bV lp G) (λ_ _=>obs (by kernel_rfl)) λc a0 H n k=>by kernel_rfl
def iY:Ta:=λlp G c k=>(.s .n (.s .n (.s (.s .n (.c (.j (λR=>F7 lp G c k) .n .n) .n)) (.j (λR=>F8 lp G c k (rg R q0) (rg R q1)) .n .n))))
theorem iZ{lp:Ho}(hL:EP lp)(G:AY):Nh G 98 (RG (LH lp G)):=
 .mk Ob <| zM hL (an:=iY lp G) (λ_ _=>obs (by kernel_rfl)) λc a0 a1 H n k=>by kernel_rfl
def zT:Ta:=λlp G c k=>.n
theorem zW{lp:Ho}(hL:EP lp)(G:AY):Nh G 100 (RG (UC lp G)):=
 .mk Wj <| zM hL (an:=zT lp G) (λ_ _=>obs (by kernel_rfl)) λc a0 a1 H n k=>by kernel_rfl
def AFg:Ta:=λlp G c k=>(.s .n (.s .n (.j (λR=>Vk lp G c k (rg R q3)) (.s .n (.b (.l _ (jY lp G c k) (λR H n=>(rg R q3,rg R q6,rg R q7,rg R q8,H,n)) λih4=>.n))) .n)))
theorem AF8{lp:Ho}(hL:EP lp)(G:AY):Nh G 101 (IQ (dH lp G)):=
 .mk jJ <| Yc hL (an:=AFg lp G) (λ_ _=>obs (by kernel_rfl)) λc a0 H n k=>by kernel_rfl
def xH:Ta:=λlp G c k=>.n
theorem wX{lp:Ho}(hL:EP lp)(G:AY):Nh G 102 (IQ (Rn lp G)):=
 .mk VH <| Yc hL (an:=xH lp G) (λ_ _=>obs (by kernel_rfl)) λc a0 H n k=>by kernel_rfl
def dB:Ta:=λlp G c k=>(.s .n (.s .n (.j (λR=>Lu lp G c k (rg R q8) (rg R q9)) (.b (.l _ (Qi lp G c k) (λR H n=>(rg R q0,rg R q1,rg R q2,rg R q3,rg R q8,rg R q9,H,n)) λih8=>.n)) .n)))
theorem bK{lp:Ho}(hL:EP lp)(G:AY):Nh G 103 (ar4 (J5 lp G)):=
 .mk OD <| sf4 hL (an:=dB lp G) (λ_ _=>obs (by kernel_rfl)) λc a0 a1 a2 a3 H n k=>by kernel_rfl
def fD:Ta:=λlp G c k=>.n
theorem eY{lp:Ho}(hL:EP lp)(G:AY):Nh G 104 (IQ (J6 lp G)):=
 .mk Nw <| Yc hL (an:=fD lp G) (λ_ _=>obs (by kernel_rfl)) λc a0 H n k=>by kernel_rfl
def ZE:Ta:=λlp G c k=>(.s .n (.s .n (.s .n (.j (λR=>FC lp G c k (rg R q2) (rg R q4)) .n .n))))
theorem ZN{lp:Ho}(hL:EP lp)(G:AY):Nh G 105 (IQ (JO lp G)):=
 .mk Ls <| Yc hL (an:=ZE lp G) (λ_ _=>obs (by kernel_rfl)) λc a0 H n k=>by kernel_rfl
def YM:Ta:=λlp G c k=>.n
theorem YD{lp:Ho}(hL:EP lp)(G:AY):Nh G 106 (IQ (IE lp G)):=
 .mk Ju <| Yc hL (an:=YM lp G) (λ_ _=>obs (by kernel_rfl)) λc a0 H n k=>by kernel_rfl
def iF:Ta:=λlp G c k=>(.s .n (.s .n (.j (λR=>NQ lp G c k (rg R q6) (rg R q7)) (.b (.l _ (RN lp G c k) (λR H n=>(rg R q0,rg R q1,rg R q2,rg R q6,rg R q7,H,n)) λih8=>.n)) .n)))
theorem iT{lp:Ho}(hL:EP lp)(G:AY):Nh G 107 (ar3 (LQ lp G)):=
 .mk OZ <| sf3 hL (an:=iF lp G) (λ_ _=>obs (by kernel_rfl)) λc a0 a1 a2 H n k=>by kernel_rfl
def Wh:Ta:=λlp G c k=>.n
theorem WV{lp:Ho}(hL:EP lp)(G:AY):Nh G 108 (IQ (Gj lp G)):=
 .mk JY <| Yc hL (an:=Wh lp G) (λ_ _=>obs (by kernel_rfl)) λc a0 H n k=>by kernel_rfl
def iD:Ta:=λlp G c k=>(.s .n (.s .n (.j (λR=>Ig lp G c k (rg R q0) (rg R q2) (rg R q63)) (.s .n (.b (.l _ (Qk lp G c k) (λR H n=>(rg R q0,rg R q2,rg R q3,rg R q16,rg R q17,rg R q18,rg R q63,H,n)) λih37=>.n))) (.s .n (.j (λR=>Lh lp G c k (rg R q2) (rg R q6) (rg R q63)) (.b (.l _ (Qj lp G c k) (λR H n=>(rg R q0,rg R q2,rg R q6,rg R q63,H,n)) λih17=>(.s .n (.b (.s .n (.s .n (.j (λR=>GH lp G c k ih17 (rg R q0) (rg R q2) (rg R q6) (rg R q7) (rg R q8) (rg R q63)) .n .n))))))) .n)))))
theorem iH{lp:Ho}(hL:EP lp)(G:AY):Nh G 109 (IQ (LM lp G)):=
 .mk Oi <| Yc hL (an:=iD lp G) (λ_ _=>obs (by kernel_rfl)) λc a0 H n k=>by kernel_rfl
def iM:Ta:=λlp G c k=>(.s .n (.s .n (.b (.l _ (RI lp G c k) (λR H n=>(rg R q0,rg R q2,rg R q3,H,n)) λih5=>.n))))
theorem iJ{lp:Ho}(hL:EP lp)(G:AY):Nh G 110 (IQ (LZ lp G)):=
 .mk Oa <| Yc hL (an:=iM lp G) (λ_ _=>obs (by kernel_rfl)) λc a0 H n k=>by kernel_rfl
def jT:Ta:=λlp G c k=>(.s .n (.s .n (.s .n (.j (λR=>Aw lp G c k (rg R q2) (rg R q4)) .n .n))))
theorem mJ{lp:Ho}(hL:EP lp)(G:AY):Nh G 111 (IQ (Md lp G)):=
 .mk PK <| Yc hL (an:=jT lp G) (λ_ _=>obs (by kernel_rfl)) λc a0 H n k=>by kernel_rfl
def dN:Ta:=λlp G c k=>.n
theorem eH{lp:Ho}(hL:EP lp)(G:AY):Nh G 112 (ar3 (KN lp G)):=
 .mk Ns <| sf3 hL (an:=dN lp G) (λ_ _=>obs (by kernel_rfl)) λc a0 a1 a2 H n k=>by kernel_rfl
def mG:Ta:=λlp G c k=>(.s .n (.s .n (.s .n (.j (λR=>Js lp G c k (rg R q3)) (.b (.l _ (TA lp G c k) (λR H n=>(rg R q0,rg R q3,H,n)) λih4=>(.s .n (.b (.j (λR=>Gf lp G c k ih4 (rg R q0) (rg R q3)) .n .n))))) .n))))
theorem jX{lp:Ho}(hL:EP lp)(G:AY):Nh G 113 (IQ (MV lp G)):=
 .mk Po <| Yc hL (an:=mG lp G) (λ_ _=>obs (by kernel_rfl)) λc a0 H n k=>by kernel_rfl
def sU:Ta:=λlp G c k=>.n
theorem uH{lp:Ho}(hL:EP lp)(G:AY):Nh G 114 (IQ (P5 lp G)):=
 .mk Tc <| Yc hL (an:=sU lp G) (λ_ _=>obs (by kernel_rfl)) λc a0 H n k=>by kernel_rfl
end Go.PQ
