/- Part of a proof; nothing is assumed. -/
import Derived.Test.YtcjkfmaoahojeaaGreatDoorPlain
import Derived.Test.YtcjkfmaoahojeaaGreatDoorCode
import Derived.Test.YtcjkfmaoahojeaaGreatDoorEngE
set_option linter.unusedVariables false
set_option linter.unusedSimpArgs false
noncomputable section
namespace Go.PQ
open Go.Eng
set_option maxRecDepth 100000
abbrev Ta:=F5->AV->BQ->KV->An
inductive Lr(G:AV)(n:Nat)(s:SF):Prop where
 |mk {af:AF} (h:T.get F n=some af) (o:ALd G af s):Lr G n s
def fP:Ta:=λlp G c k=>(.s .n (.s .n (.s .n (.s .n (.s .n (.s .n (.s .n (.s .n (.j (λR=>FU lp G c k (rg R q5) (rg R q9)) (.s .n (.b (.l _ (QK lp G c k) (λR H n=>(rg R q1,rg R q5,rg R q8,rg R q9,rg R q40,rg R q41,rg R q42,H,n)) λih50=>.n))) .n)))))))))
theorem eu{lp:F5}(hL:EC lp)(G:AV):Lr G 4 (QD (KC lp G)):=
 .mk Nu <| yh hL (an:=fP lp G) (λ_ _=>obs (by kernel_rfl)) λc a0 a1 H n k=>by kernel_rfl
def zK:Ta:=λlp G c k=>.n
theorem AAb{lp:F5}(hL:EC lp)(G:AV):Lr G 5 (ar0 (TF lp G)):=
 .mk Vd <| sf0 hL (an:=zK lp G) (λ_ _=>obs (by kernel_rfl)) λc H n k=>by kernel_rfl
def oM:Ta:=λlp G c k=>(.s .n (.s .n (.j (λR=>Nw lp G c k) (.s .n (.b (.l _ (TT lp G c k) (λR H n=>(rg R q26,rg R q27,rg R q28,H,n)) λih24=>.n))) .n)))
theorem ny{lp:F5}(hL:EC lp)(G:AV):Lr G 6 (Ho (MV lp G)):=
 .mk QV <| Yf hL (an:=oM lp G) (λ_ _=>obs (by kernel_rfl)) λc a0 H n k=>by kernel_rfl
def xg:Ta:=λlp G c k=>(.s .n (.s .n (.j (λR=>Gl lp G c k (rg R q1) (rg R q2) (rg R q3)) .n (.s .n (.s .n (.j (λR=>Ld lp G c k (rg R q2) (rg R q3)) (.s .n (.b (.l _ (V6 lp G c k) (λR H n=>(rg R q2,rg R q3,rg R q4,rg R q27,rg R q28,rg R q29,H,n)) λih22=>.n))) .n))))))
theorem wL{lp:F5}(hL:EC lp)(G:AV):Lr G 7 (Ho (Qw lp G)):=
 .mk U1 <| Yf hL (an:=xg lp G) (λ_ _=>obs (by kernel_rfl)) λc a0 H n k=>by kernel_rfl
def zl:Ta:=λlp G c k=>(.s .n (.s .n (.s .n (.j (λR=>Io lp G c k (rg R q1) (rg R q3)) .n (.s .n (.j (λR=>OX lp G c k (rg R q1) (rg R q3)) (.s .n (.b (.l _ (Wi lp G c k) (λR H n=>(rg R q1,rg R q3,rg R q21,rg R q22,rg R q23,H,n)) λih34=>.n))) (.j (λR=>NR lp G c k (rg R q3)) (.s .n (.b (.l _ (WZ lp G c k) (λR H n=>(rg R q3,rg R q39,rg R q40,rg R q41,H,n)) λih16=>.n))) .n)))))))
theorem zT{lp:F5}(hL:EC lp)(G:AV):Lr G 8 (Ho (SY lp G)):=
 .mk WB <| Yf hL (an:=zl lp G) (λ_ _=>obs (by kernel_rfl)) λc a0 H n k=>by kernel_rfl
def ADY:Ta:=λlp G c k=>.n
theorem ADx{lp:F5}(hL:EC lp)(G:AV):Lr G 9 (Ho (Xk lp G)):=
 .mk Zy <| Yf hL (an:=ADY lp G) (λ_ _=>obs (by kernel_rfl)) λc a0 H n k=>by kernel_rfl
def zU:Ta:=λlp G c k=>.n
theorem AAR{lp:F5}(hL:EC lp)(G:AV):Lr G 10 (QD (SV lp G)):=
 .mk WI <| yh hL (an:=zU lp G) (λ_ _=>obs (by kernel_rfl)) λc a0 a1 H n k=>by kernel_rfl
def ALC:Ta:=λlp G c k=>(.s .n (.s .n (.s .n (.s .n (.b (.l _ (pJ lp G c k) (λR H n=>(rg R q3,rg R q4,rg R q5,H,n)) λih12=>.n))))))
theorem ALT{lp:F5}(hL:EC lp)(G:AV):Lr G 11 (Ho (uG lp G)):=
 .mk wI <| Yf hL (an:=ALC lp G) (λ_ _=>obs (by kernel_rfl)) λc a0 H n k=>by kernel_rfl
def ABO:Ta:=λlp G c k=>.n
theorem ABY{lp:F5}(hL:EC lp)(G:AV):Lr G 12 (Ho (Us lp G)):=
 .mk XB <| Yf hL (an:=ABO lp G) (λ_ _=>obs (by kernel_rfl)) λc a0 H n k=>by kernel_rfl
def oQ:Ta:=λlp G c k=>(.s .n (.s .n (.j (λR=>Ou lp G c k) (.s .n (.b (.l _ (UM lp G c k) (λR H n=>(rg R q1,rg R q16,rg R q17,rg R q18,H,n)) λih8=>(.s .n (.s .n (.j (λR=>Nr lp G c k ih8 (rg R q1) (rg R q16) (rg R q17) (rg R q18)) (.b (.s .n (.s .n (.s .n (.b (.l _ (TU lp G c k ih8) (λR H n=>(rg R q1,rg R q16,rg R q17,rg R q18,rg R q56,rg R q57,rg R q58,H,n)) λih48=>.n)))))) .n)))))) .n)))
theorem nY{lp:F5}(hL:EC lp)(G:AV):Lr G 13 (QD (NW lp G)):=
 .mk QZ <| yh hL (an:=oQ lp G) (λ_ _=>obs (by kernel_rfl)) λc a0 a1 H n k=>by kernel_rfl
def wu:Ta:=λlp G c k=>.n
theorem xA{lp:F5}(hL:EC lp)(G:AV):Lr G 14 (Ho (Qo lp G)):=
 .mk Uw <| Yf hL (an:=wu lp G) (λ_ _=>obs (by kernel_rfl)) λc a0 H n k=>by kernel_rfl
def qW:Ta:=λlp G c k=>(.s .n (.s .n (.j (λR=>Pq lp G c k (rg R q3)) (.s .n (.b (.l _ (VH lp G c k) (λR H n=>(rg R q3,rg R q7,rg R q8,rg R q9,H,n)) λih4=>.n))) .n)))
theorem sQ{lp:F5}(hL:EC lp)(G:AV):Lr G 15 (Ho (Oc lp G)):=
 .mk SG <| Yf hL (an:=qW lp G) (λ_ _=>obs (by kernel_rfl)) λc a0 H n k=>by kernel_rfl
def wJ:Ta:=λlp G c k=>.n
theorem yc{lp:F5}(hL:EC lp)(G:AV):Lr G 16 (Ho (RF lp G)):=
 .mk U5 <| Yf hL (an:=wJ lp G) (λ_ _=>obs (by kernel_rfl)) λc a0 H n k=>by kernel_rfl
def ABg:Ta:=λlp G c k=>(.s .n (.s .n (.j (λR=>LH lp G c k (rg R q1) (rg R q2) (rg R q3)) .n .n)))
theorem ABH{lp:F5}(hL:EC lp)(G:AV):Lr G 17 (Ho (Un lp G)):=
 .mk Xj <| Yf hL (an:=ABg lp G) (λ_ _=>obs (by kernel_rfl)) λc a0 H n k=>by kernel_rfl
def wB:Ta:=λlp G c k=>(.s .n (.s .n (.j (λR=>Rk lp G c k (rg R q5)) (.s .n (.b (.l _ (Wv lp G c k) (λR H n=>(rg R q1,rg R q5,rg R q13,rg R q14,rg R q15,H,n)) λih4=>(.s .n (.s .n (.s (.b (.s .n (.s .n (.s .n (.j (λR=>Bc lp G c k ih4 (rg R q1) (rg R q5) (rg R q9) (rg R q13) (rg R q14) (rg R q15)) (.s .n (.b (.s .n (.c .n (.s .n (.c .n (.j (λR=>Gi lp G c k ih4 (rg R q1) (rg R q5) (rg R q7) (rg R q8) (rg R q9) (rg R q13) (rg R q14) (rg R q15) (rg R q24) (rg R q94)) .n (.c .n (.j (λR=>Gj lp G c k ih4 (rg R q1) (rg R q5) (rg R q7) (rg R q8) (rg R q9) (rg R q13) (rg R q14) (rg R q15) (rg R Aap)) .n .n))))))))) .n))))) .n)))))) .n)))
theorem wY{lp:F5}(hL:EC lp)(G:AV):Lr G 18 (QD (Qz lp G)):=
 .mk Ux <| yh hL (an:=wB lp G) (λ_ _=>obs (by kernel_rfl)) λc a0 a1 H n k=>by kernel_rfl
def ABW:Ta:=λlp G c k=>.n
theorem ABh{lp:F5}(hL:EC lp)(G:AV):Lr G 20 (Ho (Um lp G)):=
 .mk XW <| Yf hL (an:=ABW lp G) (λ_ _=>obs (by kernel_rfl)) λc a0 H n k=>by kernel_rfl
def yL:Ta:=λlp G c k=>(.s .n (.s .n (.j (λR=>Hq lp G c k (rg R q1) (rg R q3)) .n (.s .n (.j (λR=>Nb lp G c k (rg R q1) (rg R q3) (rg R q4)) (.s .n (.b (.l _ (Vr lp G c k) (λR H n=>(rg R q1,rg R q3,rg R q4,rg R q10,rg R q11,rg R q12,H,n)) λih19=>.n))) .n)))))
theorem xZ{lp:F5}(hL:EC lp)(G:AV):Lr G 21 (Ho (RI lp G)):=
 .mk U8 <| Yf hL (an:=yL lp G) (λ_ _=>obs (by kernel_rfl)) λc a0 H n k=>by kernel_rfl
def AHH:Ta:=λlp G c k=>(.s .n (.s .n (.s .n (.j (λR=>Vt lp G c k (rg R q1) (rg R q5)) (.s .n (.b (.l _ (mM lp G c k) (λR H n=>(rg R q1,rg R q5,rg R q9,rg R q10,rg R q11,H,n)) λih9=>.n))) .n))))
theorem AGN{lp:F5}(hL:EC lp)(G:AV):Lr G 22 (QD (dH lp G)):=
 .mk jg <| yh hL (an:=AHH lp G) (λ_ _=>obs (by kernel_rfl)) λc a0 a1 H n k=>by kernel_rfl
def ni:Ta:=λlp G c k=>(.s .n (.s .n (.s .n (.s .n (.j (λR=>Gw lp G c k (rg R q0) (rg R q2) (rg R q3)) .n (.s .n (.j (λR=>JK lp G c k (rg R q0) (rg R q2) (rg R q3)) (.b (.l _ (Tf lp G c k) (λR H n=>(rg R q0,rg R q2,rg R q3,H,n)) λih34=>.n)) (.j (λR=>Gp lp G c k (rg R q2) (rg R q3)) .n .n))))))))
theorem nR{lp:F5}(hL:EC lp)(G:AV):Lr G 24 (Ho (ND lp G)):=
 .mk Qe <| Yf hL (an:=ni lp G) (λ_ _=>obs (by kernel_rfl)) λc a0 H n k=>by kernel_rfl
def yM:Ta:=λlp G c k=>.n
theorem yK{lp:F5}(hL:EC lp)(G:AV):Lr G 25 (Ho (RH lp G)):=
 .mk VE <| Yf hL (an:=yM lp G) (λ_ _=>obs (by kernel_rfl)) λc a0 H n k=>by kernel_rfl
def WQ:Ta:=λlp G c k=>(.s .n (.s .n (.j (λR=>IG lp G c k) (.s .n (.b (.l _ (LD lp G c k) (λR H n=>(rg R q0,rg R q1,rg R q12,rg R q13,H,n)) λih6=>.n))) .n)))
theorem WR{lp:F5}(hL:EC lp)(G:AV):Lr G 26 (QD (Fz lp G)):=
 .mk Ir <| yh hL (an:=WQ lp G) (λ_ _=>obs (by kernel_rfl)) λc a0 a1 H n k=>by kernel_rfl
def IW:Ta:=λlp G c k=>(.s .n (.s .n (.j (λR=>DF lp G c k) (.s .n (.b (.l _ (EF lp G c k) (λR H n=>(rg R q1,rg R q2,rg R q15,rg R q16,rg R q17,H,n)) λih6=>.n))) .n)))
theorem IX{lp:F5}(hL:EC lp)(G:AV):Lr G 27 (ar3 (Bl lp G)):=
 .mk DN <| sf3 hL (an:=IW lp G) (λ_ _=>obs (by kernel_rfl)) λc a0 a1 a2 H n k=>by kernel_rfl
def xE:Ta:=λlp G c k=>.n
theorem wQ{lp:F5}(hL:EC lp)(G:AV):Lr G 28 (QD (Qx lp G)):=
 .mk Uy <| yh hL (an:=xE lp G) (λ_ _=>obs (by kernel_rfl)) λc a0 a1 H n k=>by kernel_rfl
def AAc:Ta:=λlp G c k=>(.b (.l _ (X3 lp G c k) (λR H n=>(rg R q0,H,n)) λih1=>(.s .n (.b (.s .n (.b (.s .n (.c .n (.s .n (.c (.s .n (.j (λR=>Fh lp G c k ih1 (rg R q0) (rg R q3)) .n .n)) .n))))))))))
theorem zO{lp:F5}(hL:EC lp)(G:AV):Lr G 29 (Ho (Sj lp G)):=
 .mk Vs <| Yf hL (an:=AAc lp G) (λ_ _=>obs (by kernel_rfl)) λc a0 H n k=>by kernel_rfl
def AAa:Ta:=λlp G c k=>(.s .n (.s .n (.s .n (.s .n (.j (λR=>D9 lp G c k (rg R q0) (rg R q2) (rg R q4)) (.b (.s .n (.c .n (.s .n (.c .n (.s .n (.c .n (.s .n (.b (.l _ (WY lp G c k) (λR H n=>(rg R q0,rg R q2,rg R q4,rg R q34,rg R q35,H,n)) λih81=>.n)))))))))) .n)))))
theorem zu{lp:F5}(hL:EC lp)(G:AV):Lr G 30 (Ho (TI lp G)):=
 .mk Vw <| Yf hL (an:=AAa lp G) (λ_ _=>obs (by kernel_rfl)) λc a0 H n k=>by kernel_rfl
def AA7:Ta:=λlp G c k=>(.s .n (.s .n (.j (λR=>UD lp G c k) (.s .n (.b (.l _ (YT lp G c k) (λR H n=>(rg R q1,rg R q29,rg R q30,rg R q31,H,n)) λih23=>.n))) .n)))
theorem ABU{lp:F5}(hL:EC lp)(G:AV):Lr G 31 (QD (Uj lp G)):=
 .mk XP <| yh hL (an:=AA7 lp G) (λ_ _=>obs (by kernel_rfl)) λc a0 a1 H n k=>by kernel_rfl
def qm:Ta:=λlp G c k=>.n
theorem tK{lp:F5}(hL:EC lp)(G:AV):Lr G 32 (QD (OJ lp G)):=
 .mk Rx <| yh hL (an:=qm lp G) (λ_ _=>obs (by kernel_rfl)) λc a0 a1 H n k=>by kernel_rfl
def yX:Ta:=λlp G c k=>(.s .n (.s .n (.s .n (.s .n (.j (λR=>BJ lp G c k (rg R q4) (rg R q7)) (.s .n (.b (.j (λR=>Dx lp G c k (rg R q2) (rg R q4) (rg R q5) (rg R q6) (rg R q7) (rg R q22) (rg R q28)) .n (.c .n (.s .n (.c .n (.s .n (.c .n (.s .n (.c (.s .n (.s .n (.s .n (.b (.l _ (Pg lp G c k) (λR H n=>(rg R q4,rg R q5,rg R q6,rg R q7,rg R q8,H,n)) λih42=>.n))))) (.s .n (.c (.s .n (.s .n (.s .n (.b (.l _ (Pj lp G c k) (λR H n=>(rg R q4,rg R q5,rg R q6,rg R q7,rg R q9,H,n)) λih62=>.n))))) (.s .n (.c .n (.s .n (.c .n (.j (λR=>Eb lp G c k (rg R q2) (rg R q4) (rg R q5) (rg R q6) (rg R q7) (rg R q22) (rg R Aa1)) .n (.c .n (.j (λR=>Ec lp G c k (rg R q2) (rg R q4) (rg R q5) (rg R q6) (rg R q7) (rg R q22) (rg R AaV)) .n (.c .n (.s .n (.c .n (.j (λR=>Fq lp G c k (rg R q2) (rg R q4) (rg R q5) (rg R q6) (rg R q7) (rg R Aal)) .n .n))))))))))))))))))))))) .n)))))
theorem xG{lp:F5}(hL:EC lp)(G:AV):Lr G 33 (QD (Q9 lp G)):=
 .mk U7 <| yh hL (an:=yX lp G) (λ_ _=>obs (by kernel_rfl)) λc a0 a1 H n k=>by kernel_rfl
def ANG:Ta:=λlp G c k=>.n
theorem AGC{lp:F5}(hL:EC lp)(G:AV):Lr G 34 (Ho (aA lp G)):=
 .mk gQ <| Yf hL (an:=ANG lp G) (λ_ _=>obs (by kernel_rfl)) λc a0 H n k=>by kernel_rfl
def ABx:Ta:=λlp G c k=>(.s .n (.s .n (.s (.s .n (.b (.s .n (.c .n (.s .n (.c .n (.s .n (.c (.s .n (.j (λR=>KQ lp G c k (rg R q6)) .n .n)) .n)))))))) .n)))
theorem Hz{lp:F5}(hL:EC lp)(G:AV):Lr G 37 (QD (BR lp G)):=
 .mk Cm <| yh hL (an:=ABx lp G) (λ_ _=>obs (by kernel_rfl)) λc a0 a1 H n k=>by kernel_rfl
def rZ:Ta:=λlp G c k=>(.s .n (.b (.l _ (VI lp G c k) (λR H n=>(rg R q0,rg R q6,rg R q7,rg R q8,H,n)) λih2=>(.s .n (.s .n (.j (λR=>Ik lp G c k ih2 (rg R q0) (rg R q6) (rg R q7) (rg R q8)) .n .n))))))
theorem qM{lp:F5}(hL:EC lp)(G:AV):Lr G 39 (QD (OH lp G)):=
 .mk RY <| yh hL (an:=rZ lp G) (λ_ _=>obs (by kernel_rfl)) λc a0 a1 H n k=>by kernel_rfl
def qP:Ta:=λlp G c k=>.n
theorem rF{lp:F5}(hL:EC lp)(G:AV):Lr G 40 (QD (OQ lp G)):=
 .mk RV <| yh hL (an:=qP lp G) (λ_ _=>obs (by kernel_rfl)) λc a0 a1 H n k=>by kernel_rfl
def rV:Ta:=λlp G c k=>.n
theorem sV{lp:F5}(hL:EC lp)(G:AV):Lr G 41 (QD (OV lp G)):=
 .mk SK <| yh hL (an:=rV lp G) (λ_ _=>obs (by kernel_rfl)) λc a0 a1 H n k=>by kernel_rfl
def uz:Ta:=λlp G c k=>(.s .n (.s .n (.j (λR=>JD lp G c k (rg R q2) (rg R q3)) .n .n)))
theorem vH{lp:F5}(hL:EC lp)(G:AV):Lr G 42 (Ho (PV lp G)):=
 .mk Tv <| Yf hL (an:=uz lp G) (λ_ _=>obs (by kernel_rfl)) λc a0 H n k=>by kernel_rfl
def pO:Ta:=λlp G c k=>.n
theorem sW{lp:F5}(hL:EC lp)(G:AV):Lr G 43 (QD (OT lp G)):=
 .mk Rq <| yh hL (an:=pO lp G) (λ_ _=>obs (by kernel_rfl)) λc a0 a1 H n k=>by kernel_rfl
def wE:Ta:=λlp G c k=>(.s .n (.j (λR=>SB lp G c k) (.s .n (.b (.l _ (Wp lp G c k) (λR H n=>(rg R q0,rg R q7,rg R q8,rg R q9,H,n)) λih3=>.n))) .n))
theorem xK{lp:F5}(hL:EC lp)(G:AV):Lr G 44 (QD (Qp lp G)):=
 .mk U3 <| yh hL (an:=wE lp G) (λ_ _=>obs (by kernel_rfl)) λc a0 a1 H n k=>by kernel_rfl
def kU:Ta:=λlp G c k=>(.s .n (.s .n (.s .n (.s .n (.s .n (.s .n (.s .n (.j (λR=>I7 lp G c k (rg R q0) (rg R q2) (rg R q4)) (.b (.l _ (SH lp G c k) (λR H n=>(rg R q0,rg R q2,rg R q4,H,n)) λih31=>(.s .n (.b (.j (λR=>F6 lp G c k ih31 (rg R q0) (rg R q2) (rg R q4)) .n .n))))) .n))))))))
theorem kT{lp:F5}(hL:EC lp)(G:AV):Lr G 45 (Ho (LK lp G)):=
 .mk P6 <| Yf hL (an:=kU lp G) (λ_ _=>obs (by kernel_rfl)) λc a0 H n k=>by kernel_rfl
def rY:Ta:=λlp G c k=>.n
theorem pK{lp:F5}(hL:EC lp)(G:AV):Lr G 46 (QD (OM lp G)):=
 .mk Rz <| yh hL (an:=rY lp G) (λ_ _=>obs (by kernel_rfl)) λc a0 a1 H n k=>by kernel_rfl
def Jt:Ta:=λlp G c k=>(.s .n (.s .n (.j (λR=>Di lp G c k) (.s .n (.b (.l _ (Ei lp G c k) (λR H n=>(rg R q1,rg R q2,rg R q15,rg R q16,rg R q17,H,n)) λih6=>.n))) .n)))
theorem Ju{lp:F5}(hL:EC lp)(G:AV):Lr G 47 (ar3 (Cb lp G)):=
 .mk Du <| sf3 hL (an:=Jt lp G) (λ_ _=>obs (by kernel_rfl)) λc a0 a1 a2 H n k=>by kernel_rfl
def AB0:Ta:=λlp G c k=>.n
theorem ABj{lp:F5}(hL:EC lp)(G:AV):Lr G 48 (QD (Ur lp G)):=
 .mk Xb <| yh hL (an:=AB0 lp G) (λ_ _=>obs (by kernel_rfl)) λc a0 a1 H n k=>by kernel_rfl
def AAf:Ta:=λlp G c k=>(.s .n (.b (.l _ (YL lp G c k) (λR H n=>(rg R q0,rg R q4,rg R q5,H,n)) λih1=>(.s .n (.s .n (.s (.b (.s .n (.j (λR=>Jc lp G c k ih1 (rg R q0) (rg R q4) (rg R q5)) .n .n))) .n))))))
theorem zq{lp:F5}(hL:EC lp)(G:AV):Lr G 49 (QD (Sz lp G)):=
 .mk Ve <| yh hL (an:=AAf lp G) (λ_ _=>obs (by kernel_rfl)) λc a0 a1 H n k=>by kernel_rfl
def qc:Ta:=λlp G c k=>.n
theorem qJ{lp:F5}(hL:EC lp)(G:AV):Lr G 50 (QD (Oi lp G)):=
 .mk SE <| yh hL (an:=qc lp G) (λ_ _=>obs (by kernel_rfl)) λc a0 a1 H n k=>by kernel_rfl
def pI:Ta:=λlp G c k=>.n
theorem pX{lp:F5}(hL:EC lp)(G:AV):Lr G 51 (QD (Og lp G)):=
 .mk RP <| yh hL (an:=pI lp G) (λ_ _=>obs (by kernel_rfl)) λc a0 a1 H n k=>by kernel_rfl
def AHX:Ta:=λlp G c k=>.n
theorem AHL{lp:F5}(hL:EC lp)(G:AV):Lr G 52 (Ho (cu lp G)):=
 .mk jk <| Yf hL (an:=AHX lp G) (λ_ _=>obs (by kernel_rfl)) λc a0 H n k=>by kernel_rfl
def ABw:Ta:=λlp G c k=>(.s .n (.s .n (.j (λR=>Px lp G c k (rg R q0) (rg R q5)) (.b (.l _ (Xz lp G c k) (λR H n=>(rg R q0,rg R q1,rg R q5,H,n)) λih13=>.n)) .n)))
theorem ABD{lp:F5}(hL:EC lp)(G:AV):Lr G 53 (QD (Uf lp G)):=
 .mk XD <| yh hL (an:=ABw lp G) (λ_ _=>obs (by kernel_rfl)) λc a0 a1 H n k=>by kernel_rfl
def AHn:Ta:=λlp G c k=>.n
theorem AG3{lp:F5}(hL:EC lp)(G:AV):Lr G 54 (Ho (bT lp G)):=
 .mk lC <| Yf hL (an:=AHn lp G) (λ_ _=>obs (by kernel_rfl)) λc a0 H n k=>by kernel_rfl
def AHF:Ta:=λlp G c k=>.n
theorem AGz{lp:F5}(hL:EC lp)(G:AV):Lr G 55 (Ho (dR lp G)):=
 .mk jY <| Yf hL (an:=AHF lp G) (λ_ _=>obs (by kernel_rfl)) λc a0 H n k=>by kernel_rfl
def AHk:Ta:=λlp G c k=>(.s .n (.s (.s .n (.b (.j (λR=>Bo lp G c k (rg R q4)) .n .n))) .n))
theorem AHY{lp:F5}(hL:EC lp)(G:AV):Lr G 56 (Ho (bK lp G)):=
 .mk jJ <| Yf hL (an:=AHk lp G) (λ_ _=>obs (by kernel_rfl)) λc a0 H n k=>by kernel_rfl
def AHT:Ta:=λlp G c k=>.n
theorem AGn{lp:F5}(hL:EC lp)(G:AV):Lr G 57 (Ho (dO lp G)):=
 .mk jI <| Yf hL (an:=AHT lp G) (λ_ _=>obs (by kernel_rfl)) λc a0 H n k=>by kernel_rfl
def AE2:Ta:=λlp G c k=>(.s .n (.s .n (.j (λR=>Yj lp G c k (rg R q4)) (.s .n (.b (.l _ (iR lp G c k) (λR H n=>(rg R q4,rg R q8,rg R q9,rg R q10,H,n)) λih4=>.n))) .n)))
theorem AFD{lp:F5}(hL:EC lp)(G:AV):Lr G 58 (Ho (Zk lp G)):=
 .mk eP <| Yf hL (an:=AE2 lp G) (λ_ _=>obs (by kernel_rfl)) λc a0 H n k=>by kernel_rfl
def oq:Ta:=λlp G c k=>.n
theorem YG{lp:F5}(hL:EC lp)(G:AV):Lr G 59 (ar3 (GI lp G)):=
 .mk Jq <| sf3 hL (an:=oq lp G) (λ_ _=>obs (by kernel_rfl)) λc a0 a1 a2 H n k=>by kernel_rfl
def AB5:Ta:=λlp G c k=>.n
theorem AA9{lp:F5}(hL:EC lp)(G:AV):Lr G 60 (Ho (Uo lp G)):=
 .mk Xc <| Yf hL (an:=AB5 lp G) (λ_ _=>obs (by kernel_rfl)) λc a0 H n k=>by kernel_rfl
def ABq:Ta:=λlp G c k=>.n
theorem AA4{lp:F5}(hL:EC lp)(G:AV):Lr G 63 (QD (Ug lp G)):=
 .mk XK <| yh hL (an:=ABq lp G) (λ_ _=>obs (by kernel_rfl)) λc a0 a1 H n k=>by kernel_rfl
def qK:Ta:=λlp G c k=>(.s .n (.s .n (.j (λR=>Ic lp G c k (rg R q2) (rg R q3)) .n .n)))
theorem qx{lp:F5}(hL:EC lp)(G:AV):Lr G 66 (Ho (Oh lp G)):=
 .mk Ro <| Yf hL (an:=qK lp G) (λ_ _=>obs (by kernel_rfl)) λc a0 H n k=>by kernel_rfl
def qU:Ta:=λlp G c k=>.n
theorem qL{lp:F5}(hL:EC lp)(G:AV):Lr G 67 (Ho (OU lp G)):=
 .mk RQ <| Yf hL (an:=qU lp G) (λ_ _=>obs (by kernel_rfl)) λc a0 H n k=>by kernel_rfl
def oK:Ta:=λlp G c k=>(.s .n (.s .n (.s .n (.s .n (.j (λR=>J6 lp G c k (rg R q3) (rg R q22)) (.b (.l _ (UR lp G c k) (λR H n=>(rg R q0,rg R q3,rg R q22,H,n)) λih6=>.n)) .n)))))
theorem oU{lp:F5}(hL:EC lp)(G:AV):Lr G 68 (Ho (Nc lp G)):=
 .mk Qb <| Yf hL (an:=oK lp G) (λ_ _=>obs (by kernel_rfl)) λc a0 H n k=>by kernel_rfl
def Jy:Ta:=λlp G c k=>(.s .n (.s .n (.j (λR=>Dh lp G c k) (.s .n (.b (.l _ (Ee lp G c k) (λR H n=>(rg R q1,rg R q2,rg R q15,rg R q16,rg R q17,H,n)) λih6=>.n))) .n)))
theorem Jv{lp:F5}(hL:EC lp)(G:AV):Lr G 69 (ar3 (CY lp G)):=
 .mk Dq <| sf3 hL (an:=Jy lp G) (λ_ _=>obs (by kernel_rfl)) λc a0 a1 a2 H n k=>by kernel_rfl
def ABN:Ta:=λlp G c k=>.n
theorem ABc{lp:F5}(hL:EC lp)(G:AV):Lr G 70 (QD (Uk lp G)):=
 .mk XI <| yh hL (an:=ABN lp G) (λ_ _=>obs (by kernel_rfl)) λc a0 a1 H n k=>by kernel_rfl
def VP:Ta:=λlp G c k=>.n
theorem VU{lp:F5}(hL:EC lp)(G:AV):Lr G 71 (QD (FV lp G)):=
 .mk II <| yh hL (an:=VP lp G) (λ_ _=>obs (by kernel_rfl)) λc a0 a1 H n k=>by kernel_rfl
def VO:Ta:=λlp G c k=>.n
theorem VY{lp:F5}(hL:EC lp)(G:AV):Lr G 72 (QD (FP lp G)):=
 .mk IK <| yh hL (an:=VO lp G) (λ_ _=>obs (by kernel_rfl)) λc a0 a1 H n k=>by kernel_rfl
def ABm:Ta:=λlp G c k=>.n
theorem Bz{lp:F5}(hL:EC lp)(G:AV):Lr G 74 (Ho (Aa lp G)):=
 .mk Ag <| Yf hL (an:=ABm lp G) (λ_ _=>obs (by kernel_rfl)) λc a0 H n k=>by kernel_rfl
def AKr:Ta:=λlp G c k=>.n
theorem AKY{lp:F5}(hL:EC lp)(G:AV):Lr G 77 (ar0 (uH lp G)):=
 .mk wo <| sf0 hL (an:=AKr lp G) (λ_ _=>obs (by kernel_rfl)) λc H n k=>by kernel_rfl
def AJP:Ta:=λlp G c k=>.n
theorem AIe{lp:F5}(hL:EC lp)(G:AV):Lr G 78 (ar0 (jO lp G)):=
 .mk rO <| sf0 hL (an:=AJP lp G) (λ_ _=>obs (by kernel_rfl)) λc H n k=>by kernel_rfl
def rJ:Ta:=λlp G c k=>(.s .n (.j (λR=>IZ lp G c k (rg R q1)) .n .n))
theorem sD{lp:F5}(hL:EC lp)(G:AV):Lr G 79 (Ho (OO lp G)):=
 .mk Rw <| Yf hL (an:=rJ lp G) (λ_ _=>obs (by kernel_rfl)) λc a0 H n k=>by kernel_rfl
def tV:Ta:=λlp G c k=>(.s .n (.s .n (.j (λR=>EJ lp G c k (rg R q0) (rg R q2) (rg R q3)) .n .n)))
theorem rP{lp:F5}(hL:EC lp)(G:AV):Lr G 80 (Ho (Oa lp G)):=
 .mk SI <| Yf hL (an:=tV lp G) (λ_ _=>obs (by kernel_rfl)) λc a0 H n k=>by kernel_rfl
def rM:Ta:=λlp G c k=>.n
theorem pG{lp:F5}(hL:EC lp)(G:AV):Lr G 83 (QD (OY lp G)):=
 .mk RZ <| yh hL (an:=rM lp G) (λ_ _=>obs (by kernel_rfl)) λc a0 a1 H n k=>by kernel_rfl
def ACu:Ta:=λlp G c k=>.n
theorem ACt{lp:F5}(hL:EC lp)(G:AV):Lr G 84 (QD (Vg lp G)):=
 .mk Yp <| yh hL (an:=ACu lp G) (λ_ _=>obs (by kernel_rfl)) λc a0 a1 H n k=>by kernel_rfl
def AJr:Ta:=λlp G c k=>(.s .n (.s .n (.j (λR=>Xq lp G c k (rg R q3)) (.s .n (.b (.l _ (qH lp G c k) (λR H n=>(rg R q3,rg R q6,rg R q7,rg R q8,H,n)) λih4=>.n))) .n)))
theorem AIE{lp:F5}(hL:EC lp)(G:AV):Lr G 85 (Ho (kV lp G)):=
 .mk rD <| Yf hL (an:=AJr lp G) (λ_ _=>obs (by kernel_rfl)) λc a0 H n k=>by kernel_rfl
def ABo:Ta:=λlp G c k=>.n
theorem ABF{lp:F5}(hL:EC lp)(G:AV):Lr G 86 (Ho (Ue lp G)):=
 .mk XT <| Yf hL (an:=ABo lp G) (λ_ _=>obs (by kernel_rfl)) λc a0 H n k=>by kernel_rfl
def jv:Ta:=λlp G c k=>.n
theorem lM{lp:F5}(hL:EC lp)(G:AV):Lr G 87 (Ho (LZ lp G)):=
 .mk Eu <| Yf hL (an:=jv lp G) (λ_ _=>obs (by kernel_rfl)) λc a0 H n k=>by kernel_rfl
def qX:Ta:=λlp G c k=>.n
theorem ru{lp:F5}(hL:EC lp)(G:AV):Lr G 88 (Ho (OI lp G)):=
 .mk RN <| Yf hL (an:=qX lp G) (λ_ _=>obs (by kernel_rfl)) λc a0 H n k=>by kernel_rfl
def kC:Ta:=λlp G c k=>(.s .n (.s .n (.s .n (.s .n (.s .n (.s .n (.j (λR=>Ep lp G c k (rg R q2) (rg R q3) (rg R q37)) .n .n)))))))
theorem jF{lp:F5}(hL:EC lp)(G:AV):Lr G 89 (Ho (La lp G)):=
 .mk PO <| Yf hL (an:=kC lp G) (λ_ _=>obs (by kernel_rfl)) λc a0 H n k=>by kernel_rfl
def oG:Ta:=λlp G c k=>(.s .n (.s .n (.s (.s .n (.c (.j (λR=>Gt lp G c k) .n .n) .n)) (.j (λR=>Gn lp G c k (rg R q0) (rg R q1)) .n .n))))
theorem oC{lp:F5}(hL:EC lp)(G:AV):Lr G 90 (QD (NK lp G)):=
 .mk QX <| yh hL (an:=oG lp G) (λ_ _=>obs (by kernel_rfl)) λc a0 a1 H n k=>by kernel_rfl
def YH:Ta:=λlp G c k=>(.s .n (.s (.s .n (.c (.s .n (.s .n (.s .n (.j (λR=>FZ lp G c k (rg R q0) (rg R q5) (rg R q6)) .n .n)))) .n)) .n))
theorem YS{lp:F5}(hL:EC lp)(G:AV):Lr G 91 (QD (He lp G)):=
 .mk Ja <| yh hL (an:=YH lp G) (λ_ _=>obs (by kernel_rfl)) λc a0 a1 H n k=>by kernel_rfl
def jL:Ta:=λlp G c k=>(.s .n (.s .n (.j (λR=>Ns lp G c k (rg R q8) (rg R q9)) (.b (.l _ (TW lp G c k) (λR H n=>(rg R q0,rg R q1,rg R q2,rg R q3,rg R q8,rg R q9,H,n)) λih8=>.n)) .n)))
theorem jM{lp:F5}(hL:EC lp)(G:AV):Lr G 92 (ar4 (Lh lp G)):=
 .mk PZ <| sf4 hL (an:=jL lp G) (λ_ _=>obs (by kernel_rfl)) λc a0 a1 a2 a3 H n k=>by kernel_rfl
def jU:Ta:=λlp G c k=>.n
theorem lQ{lp:F5}(hL:EC lp)(G:AV):Lr G 93 (Ho (Le lp G)):=
 .mk PW <| Yf hL (an:=jU lp G) (λ_ _=>obs (by kernel_rfl)) λc a0 H n k=>by kernel_rfl
def eX:Ta:=λlp G c k=>(.s .n (.s .n (.s .n (.j (λR=>Fj lp G c k (rg R q2) (rg R q4)) .n .n))))
theorem eY{lp:F5}(hL:EC lp)(G:AV):Lr G 94 (Ho (J7 lp G)):=
 .mk Nq <| Yf hL (an:=eX lp G) (λ_ _=>obs (by kernel_rfl)) λc a0 H n k=>by kernel_rfl
def aZ:Ta:=λlp G c k=>.n
theorem aT{lp:F5}(hL:EC lp)(G:AV):Lr G 95 (Ho (JV lp G)):=
 .mk Lu <| Yf hL (an:=aZ lp G) (λ_ _=>obs (by kernel_rfl)) λc a0 H n k=>by kernel_rfl
def X8:Ta:=λlp G c k=>.n
theorem YZ{lp:F5}(hL:EC lp)(G:AV):Lr G 96 (Ho (G6 lp G)):=
 .mk Jj <| Yf hL (an:=X8 lp G) (λ_ _=>obs (by kernel_rfl)) λc a0 H n k=>by kernel_rfl
def Vq:Ta:=λlp G c k=>(.s .n (.j (λR=>Ew lp G c k (rg R q0) (rg R q1) (rg R q4)) (.b (.l _ (KJ lp G c k) (λR H n=>(rg R q0,rg R q1,rg R q4,H,n)) λih51=>.n)) (.s .n (.j (λR=>EI lp G c k (rg R q0) (rg R q4) (rg R q12)) .n (.j (λR=>EH lp G c k (rg R q0) (rg R q4) (rg R q12)) .n .n)))))
theorem WG{lp:F5}(hL:EC lp)(G:AV):Lr G 97 (QD (Fb lp G)):=
 .mk Ia <| yh hL (an:=Vq lp G) (λ_ _=>obs (by kernel_rfl)) λc a0 a1 H n k=>by kernel_rfl
def aC:Ta:=λlp G c k=>.n
theorem aF{lp:F5}(hL:EC lp)(G:AV):Lr G 99 (Ho (I4 lp G)):=
 .mk LG <| Yf hL (an:=aC lp G) (λ_ _=>obs (by kernel_rfl)) λc a0 H n k=>by kernel_rfl
def nZ:Ta:=λlp G c k=>(.s .n (.s .n (.j (λR=>Ox lp G c k (rg R q6) (rg R q7)) (.b (.l _ (UG lp G c k) (λR H n=>(rg R q0,rg R q1,rg R q2,rg R q6,rg R q7,H,n)) λih8=>.n)) .n)))
theorem nT{lp:F5}(hL:EC lp)(G:AV):Lr G 100 (ar3 (MW lp G)):=
 .mk QW <| sf3 hL (an:=nZ lp G) (λ_ _=>obs (by kernel_rfl)) λc a0 a1 a2 H n k=>by kernel_rfl
def Yg:Ta:=λlp G c k=>.n
theorem Yx{lp:F5}(hL:EC lp)(G:AV):Lr G 101 (Ho (IE lp G)):=
 .mk KH <| Yf hL (an:=Yg lp G) (λ_ _=>obs (by kernel_rfl)) λc a0 H n k=>by kernel_rfl
def oP:Ta:=λlp G c k=>(.s .n (.s .n (.j (λR=>JU lp G c k (rg R q0) (rg R q2) (rg R q63)) (.s .n (.b (.l _ (TS lp G c k) (λR H n=>(rg R q0,rg R q2,rg R q3,rg R q16,rg R q17,rg R q18,rg R q63,H,n)) λih37=>.n))) (.s .n (.j (λR=>Np lp G c k (rg R q2) (rg R q6) (rg R q63)) (.b (.l _ (TV lp G c k) (λR H n=>(rg R q0,rg R q2,rg R q6,rg R q63,H,n)) λih17=>(.s .n (.b (.s .n (.s .n (.j (λR=>Gm lp G c k ih17 (rg R q0) (rg R q2) (rg R q6) (rg R q7) (rg R q8) (rg R q63)) .n .n))))))) .n)))))
theorem oO{lp:F5}(hL:EC lp)(G:AV):Lr G 102 (Ho (MO lp G)):=
 .mk Qd <| Yf hL (an:=oP lp G) (λ_ _=>obs (by kernel_rfl)) λc a0 H n k=>by kernel_rfl
def Yb:Ta:=λlp G c k=>.n
theorem YO{lp:F5}(hL:EC lp)(G:AV):Lr G 103 (Ho (G9 lp G)):=
 .mk Jd <| Yf hL (an:=Yb lp G) (λ_ _=>obs (by kernel_rfl)) λc a0 H n k=>by kernel_rfl
def vg:Ta:=λlp G c k=>(.s .n (.j (λR=>Jf lp G c k (rg R q0) (rg R q2)) .n (.j (λR=>Jh lp G c k (rg R q0) (rg R q2)) .n (.j (λR=>Jb lp G c k (rg R q0) (rg R q2)) .n .n))))
theorem yD{lp:F5}(hL:EC lp)(G:AV):Lr G 104 (Ho (Qy lp G)):=
 .mk U2 <| Yf hL (an:=vg lp G) (λ_ _=>obs (by kernel_rfl)) λc a0 H n k=>by kernel_rfl
def YB:Ta:=λlp G c k=>.n
theorem X9{lp:F5}(hL:EC lp)(G:AV):Lr G 105 (Ho (G8 lp G)):=
 .mk Jo <| Yf hL (an:=YB lp G) (λ_ _=>obs (by kernel_rfl)) λc a0 H n k=>by kernel_rfl
def oJ:Ta:=λlp G c k=>(.s .n (.s .n (.b (.l _ (UQ lp G c k) (λR H n=>(rg R q0,rg R q2,rg R q3,H,n)) λih5=>.n))))
theorem oH{lp:F5}(hL:EC lp)(G:AV):Lr G 108 (Ho (MK lp G)):=
 .mk Qj <| Yf hL (an:=oJ lp G) (λ_ _=>obs (by kernel_rfl)) λc a0 H n k=>by kernel_rfl
def qg:Ta:=λlp G c k=>(.s .n (.s .n (.s .n (.j (λR=>BL lp G c k (rg R q2) (rg R q4)) .n .n))))
theorem pF{lp:F5}(hL:EC lp)(G:AV):Lr G 111 (Ho (OG lp G)):=
 .mk RX <| Yf hL (an:=qg lp G) (λ_ _=>obs (by kernel_rfl)) λc a0 H n k=>by kernel_rfl
def kG:Ta:=λlp G c k=>.n
theorem kW{lp:F5}(hL:EC lp)(G:AV):Lr G 112 (ar3 (Lm lp G)):=
 .mk Pz <| sf3 hL (an:=kG lp G) (λ_ _=>obs (by kernel_rfl)) λc a0 a1 a2 H n k=>by kernel_rfl
def pV:Ta:=λlp G c k=>(.s .n (.s .n (.s .n (.j (λR=>Ku lp G c k (rg R q3)) (.b (.l _ (VL lp G c k) (λR H n=>(rg R q0,rg R q3,H,n)) λih4=>(.s .n (.b (.j (λR=>Ht lp G c k ih4 (rg R q0) (rg R q3)) .n .n))))) .n))))
theorem tu{lp:F5}(hL:EC lp)(G:AV):Lr G 113 (Ho (Oj lp G)):=
 .mk Rj <| Yf hL (an:=pV lp G) (λ_ _=>obs (by kernel_rfl)) λc a0 H n k=>by kernel_rfl
def zk:Ta:=λlp G c k=>.n
theorem AAD{lp:F5}(hL:EC lp)(G:AV):Lr G 114 (Ho (TG lp G)):=
 .mk V5 <| Yf hL (an:=zk lp G) (λ_ _=>obs (by kernel_rfl)) λc a0 H n k=>by kernel_rfl
end Go.PQ
