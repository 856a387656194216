/- Part of a proof: texts LQSi LQSt of the engine and what is proved with it; nothing is assumed. -/
import Derived.Test.YtibbhhkcjjeclaaDoorPlain
import Derived.Test.YtibbhhkcjjeclaaDoorCode
import Derived.Test.YtibbhhkcjjeclaaDoorEngE
set_option linter.unusedVariables false
set_option linter.unusedSimpArgs false
noncomputable section
namespace Go.RL
open Go.CS
set_option maxRecDepth 100000
inductive O0(G:AQ)(n:Nat)(s:SF):Prop where
 |mk {af:AF} (h:T.get F n=some af) (o:AC1 G af s):O0 G n s
def Z8(lp:Au)(G:AQ)(call:AX)(k:KV):An:=(.s .n (.s .n (.s .n (.s .n (.s .n (.s .n (.j (λR=>Jm lp G call k (rg R q5)) (.s .n (.b (.l _ (P5 lp G call k) (λR H n=>(rg R q3,rg R q5,rg R q24,rg R q25,rg R q26,H,n)) λih17=>(.s .n (.s .n (.j (λR=>GN lp G call k ih17 (rg R q3) (rg R q5) (rg R q24) (rg R q25) (rg R q26)) (.b (.s .n (.s .n (.b (.l _ (Jc lp G call k ih17) (λR H n=>(rg R q3,rg R q5,rg R q7,rg R q24,rg R q25,rg R q26,rg R q32,rg R q33,rg R q34,H,n)) λih29=>.n))))) .n)))))) .n)))))))
theorem TA{lp:Au}(hL:D7 lp)(G:AQ):O0 G 6 (KL (GY lp G)):=
 .mk Nk <| qp hL (an:=Z8 lp G) (λ_ _=>obs (by kernel_rfl)) λcall a0 H n k=>by kernel_rfl
def vI(lp:Au)(G:AQ)(call:AX)(k:KV):An:=(.s .n (.j (λR=>SV lp G call k (rg R q0)) (.s .n (.b (.l _ (XO lp G call k) (λR H n=>(rg R q0,rg R q5,rg R q6,rg R q7,H,n)) λih5=>.n))) .n))
theorem bf{lp:Au}(hL:D7 lp)(G:AQ):O0 G 13 (KL (Om lp G)):=
 .mk VL <| qp hL (an:=vI lp G) (λ_ _=>obs (by kernel_rfl)) λcall a0 H n k=>by kernel_rfl
def ACv(lp:Au)(G:AQ)(call:AX)(k:KV):An:=(.s .n (.s .n (.s .n (.s .n (.j (λR=>YB lp G call k (rg R q0) (rg R q4) (rg R q5)) (.s .n (.b (.l _ (bH lp G call k) (λR H n=>(rg R q0,rg R q4,rg R q5,rg R q19,rg R q20,rg R q21,H,n)) λih33=>.n))) (.s .n (.j (λR=>Wn lp G call k (rg R q5)) (.s .n (.b (.l _ (VQ lp G call k) (λR H n=>(rg R q5,rg R q73,rg R q74,rg R q75,H,n)) λih13=>.n))) .n)))))))
theorem uS{lp:Au}(hL:D7 lp)(G:AQ):O0 G 14 (KL (V7 lp G)):=
 .mk fE <| qp hL (an:=ACv lp G) (λ_ _=>obs (by kernel_rfl)) λcall a0 H n k=>by kernel_rfl
def oQ(lp:Au)(G:AQ)(call:AX)(k:KV):An:=(.s .n (.s .n (.j (λR=>Ph lp G call k) (.s .n (.b (.l _ (Uf lp G call k) (λR H n=>(rg R q0,rg R q3,rg R q24,rg R q25,rg R q26,H,n)) λih12=>.n))) .n)))
theorem YM{lp:Au}(hL:D7 lp)(G:AQ):O0 G 17 (RP (LK lp G)):=
 .mk SB <| sf2 hL (an:=oQ lp G) (λ_ _=>obs (by kernel_rfl)) λcall a0 a1 H n k=>by kernel_rfl
def mM(lp:Au)(G:AQ)(call:AX)(k:KV):An:=.n
theorem Xa{lp:Au}(hL:D7 lp)(G:AQ):O0 G 18 (KL (Jl lp G)):=
 .mk Q5 <| qp hL (an:=mM lp G) (λ_ _=>obs (by kernel_rfl)) λcall a0 H n k=>by kernel_rfl
def mY(lp:Au)(G:AQ)(call:AX)(k:KV):An:=(.s .n (.s .n (.j (λR=>PU lp G call k (rg R q6)) (.b (.l _ (Tq lp G call k) (λR H n=>(rg R q0,rg R q1,rg R q6,H,n)) λih2=>.n)) .n)))
theorem XR{lp:Au}(hL:D7 lp)(G:AQ):O0 G 19 (RP (Jp lp G)):=
 .mk Q8 <| sf2 hL (an:=mY lp G) (λ_ _=>obs (by kernel_rfl)) λcall a0 a1 H n k=>by kernel_rfl
def pI(lp:Au)(G:AQ)(call:AX)(k:KV):An:=.n
theorem Yl{lp:Au}(hL:D7 lp)(G:AQ):O0 G 21 (RP (LZ lp G)):=
 .mk SC <| sf2 hL (an:=pI lp G) (λ_ _=>obs (by kernel_rfl)) λcall a0 a1 H n k=>by kernel_rfl
def sO(lp:Au)(G:AQ)(call:AX)(k:KV):An:=.n
theorem rO{lp:Au}(hL:D7 lp)(G:AQ):O0 G 25 (ar0 (bC lp G)):=
 .mk uD <| sf0 hL (an:=sO lp G) (λ_ _=>obs (by kernel_rfl)) λcall H n k=>by kernel_rfl
def yK(lp:Au)(G:AQ)(call:AX)(k:KV):An:=(.s .n (.j (λR=>Tn lp G call k (rg R q2)) (.s .n (.b (.l _ (Xx lp G call k) (λR H n=>(rg R q0,rg R q2,rg R q12,rg R q13,rg R q14,H,n)) λih7=>(.s .n (.s .n (.j (λR=>Pz lp G call k ih7 (rg R q0) (rg R q2) (rg R q12) (rg R q13) (rg R q14)) (.b (.s .n (.s .n (.s .n (.b (.l _ (Qv lp G call k ih7) (λR H n=>(rg R q0,rg R q2,rg R q4,rg R q5,rg R q12,rg R q13,rg R q14,rg R q26,rg R q27,rg R q28,H,n)) λih22=>.n)))))) .n)))))) .n))
theorem gW{lp:Au}(hL:D7 lp)(G:AQ):O0 G 26 (KL (QF lp G)):=
 .mk Wj <| qp hL (an:=yK lp G) (λ_ _=>obs (by kernel_rfl)) λcall a0 H n k=>by kernel_rfl
def qZ(lp:Au)(G:AQ)(call:AX)(k:KV):An:=(.s .n (.s .n (.s .n (.s .n (.s .n (.j (λR=>ER lp G call k (rg R q7) (rg R q8) (rg R q9)) .n (.j (λR=>PN lp G call k (rg R q7) (rg R q8)) (.s .n (.b (.l _ (Uo lp G call k) (λR H n=>(rg R q7,rg R q8,rg R q9,rg R q60,rg R q61,rg R q62,H,n)) λih75=>.n))) (.s .n (.j (λR=>KG lp G call k (rg R q7)) (.b (.l _ (OO lp G call k) (λR H n=>(rg R q7,H,n)) λih35=>(.s .n (.b (.s .n (.s .n (.b (.l _ (Og lp G call k ih35) (λR H n=>(rg R q7,rg R q96,rg R q97,H,n)) λih53=>(.s .n (.s .n (.j (λR=>Hy lp G call k ih35 ih53 (rg R q7) (rg R q96) (rg R q97)) .n .n))))))))))) .n)))))))))
theorem Yj{lp:Au}(hL:D7 lp)(G:AQ):O0 G 27 (ar3 (La lp G)):=
 .mk SS <| sf3 hL (an:=qZ lp G) (λ_ _=>obs (by kernel_rfl)) λcall a0 a1 a2 H n k=>by kernel_rfl
def AGQ(lp:Au)(G:AQ)(call:AX)(k:KV):An:=.n
theorem AA4{lp:Au}(hL:D7 lp)(G:AQ):O0 G 29 (ar0 (aK lp G)):=
 .mk qM <| sf0 hL (an:=AGQ lp G) (λ_ _=>obs (by kernel_rfl)) λcall H n k=>by kernel_rfl
def AAg(lp:Au)(G:AQ)(call:AX)(k:KV):An:=.n
theorem AAD{lp:Au}(hL:D7 lp)(G:AQ):O0 G 31 (RP (nS lp G)):=
 .mk AAa <| sf2 hL (an:=AAg lp G) (λ_ _=>obs (by kernel_rfl)) λcall a0 a1 H n k=>by kernel_rfl
def pJ(lp:Au)(G:AQ)(call:AX)(k:KV):An:=.n
theorem pK{lp:Au}(hL:D7 lp)(G:AQ):O0 G 32 (KL (ZK lp G)):=
 .mk oU <| qp hL (an:=pJ lp G) (λ_ _=>obs (by kernel_rfl)) λcall a0 H n k=>by kernel_rfl
def uh(lp:Au)(G:AQ)(call:AX)(k:KV):An:=.n
theorem wE{lp:Au}(hL:D7 lp)(G:AQ):O0 G 33 (ar3 (gK lp G)):=
 .mk uj <| sf3 hL (an:=uh lp G) (λ_ _=>obs (by kernel_rfl)) λcall a0 a1 a2 H n k=>by kernel_rfl
def yN(lp:Au)(G:AQ)(call:AX)(k:KV):An:=.n
theorem fO{lp:Au}(hL:D7 lp)(G:AQ):O0 G 34 (KL (QY lp G)):=
 .mk W9 <| qp hL (an:=yN lp G) (λ_ _=>obs (by kernel_rfl)) λcall a0 H n k=>by kernel_rfl
def yQ(lp:Au)(G:AQ)(call:AX)(k:KV):An:=.n
theorem fP{lp:Au}(hL:D7 lp)(G:AQ):O0 G 35 (KL (QT lp G)):=
 .mk WX <| qp hL (an:=yQ lp G) (λ_ _=>obs (by kernel_rfl)) λcall a0 H n k=>by kernel_rfl
def vZ(lp:Au)(G:AQ)(call:AX)(k:KV):An:=(.s .n (.s .n (.j (λR=>MP lp G call k (rg R q1)) (.s .n (.b (.l _ (VB lp G call k) (λR H n=>(rg R q1,rg R q60,rg R q61,rg R q62,H,n)) λih127=>.n))) (.j (λR=>MV lp G call k (rg R q1)) (.s .n (.b (.l _ (U9 lp G call k) (λR H n=>(rg R q1,rg R q72,rg R q73,rg R q74,H,n)) λih112=>.n))) (.j (λR=>MB lp G call k (rg R q1)) (.s .n (.b (.l _ (WI lp G call k) (λR H n=>(rg R q1,rg R q85,rg R q86,rg R q87,H,n)) λih86=>.n))) (.j (λR=>MC lp G call k (rg R q1)) (.s .n (.b (.l _ (WM lp G call k) (λR H n=>(rg R q1,rg R ATN,rg R ASY,rg R ATf,H,n)) λih64=>.n))) (.j (λR=>Qw lp G call k) (.s .n (.b (.l _ (Vy lp G call k) (λR H n=>(rg R AVA,rg R AU1,rg R AT2,H,n)) λih49=>.n))) .n)))))))
theorem aT{lp:Au}(hL:D7 lp)(G:AQ):O0 G 37 (KL (O1 lp G)):=
 .mk Vd <| qp hL (an:=vZ lp G) (λ_ _=>obs (by kernel_rfl)) λcall a0 H n k=>by kernel_rfl
def nK(lp:Au)(G:AQ)(call:AX)(k:KV):An:=(.s .n (.s .n (.j (λR=>OG lp G call k) (.s .n (.b (.l _ (NY lp G call k) (λR H n=>(rg R q1,rg R q30,rg R q31,rg R q32,H,n)) λih24=>(.s .n (.s .n (.j (λR=>Ei lp G call k ih24 (rg R q1) (rg R q30) (rg R q31) (rg R q32)) (.b (.s .n (.s .n (.s .n (.j (λR=>Ej lp G call k ih24 (rg R q1) (rg R q4) (rg R q6) (rg R q30) (rg R q31) (rg R q32)) .n (.s .n (.s .n (.b (.l _ (Nc lp G call k ih24) (λR H n=>(rg R q1,rg R q4,rg R q30,rg R q31,rg R q32,rg R q83,rg R q84,rg R q85,H,n)) λih71=>.n))))))))) .n)))))) .n)))
theorem XE{lp:Au}(hL:D7 lp)(G:AQ):O0 G 38 (KL (Jr lp G)):=
 .mk Qu <| qp hL (an:=nK lp G) (λ_ _=>obs (by kernel_rfl)) λcall a0 H n k=>by kernel_rfl
def AFS(lp:Au)(G:AQ)(call:AX)(k:KV):An:=(.s .n (.s .n (.j (λR=>Zw lp G call k (rg R q3)) (.s .n (.b (.l _ (jl lp G call k) (λR H n=>(rg R q3,rg R q10,rg R q11,rg R q12,H,n)) λih7=>.n))) .n)))
theorem wo{lp:Au}(hL:D7 lp)(G:AQ):O0 G 39 (KL (Xu lp G)):=
 .mk jJ <| qp hL (an:=AFS lp G) (λ_ _=>obs (by kernel_rfl)) λcall a0 H n k=>by kernel_rfl
def mP(lp:Au)(G:AQ)(call:AX)(k:KV):An:=(.s .n (.s .n (.s .n (.s .n (.s .n (.s .n (.j (λR=>Jh lp G call k (rg R q0) (rg R q5)) (.s .n (.b (.l _ (NR lp G call k) (λR H n=>(rg R q0,rg R q5,rg R q67,rg R q68,rg R q69,H,n)) λih74=>.n))) (.j (λR=>OA lp G call k) (.s .n (.b (.l _ (TT lp G call k) (λR H n=>(rg R q0,rg R q5,rg R q92,rg R q93,rg R q94,H,n)) λih37=>.n))) .n))))))))
theorem XK{lp:Au}(hL:D7 lp)(G:AQ):O0 G 40 (RP (Jz lp G)):=
 .mk RG <| sf2 hL (an:=mP lp G) (λ_ _=>obs (by kernel_rfl)) λcall a0 a1 H n k=>by kernel_rfl
def qV(lp:Au)(G:AQ)(call:AX)(k:KV):An:=(.s .n (.j (λR=>QD lp G call k (rg R q0) (rg R q3)) (.s .n (.b (.l _ (Ux lp G call k) (λR H n=>(rg R q0,rg R q3,rg R q17,rg R q18,rg R q19,H,n)) λih61=>.n))) (.s .n (.j (λR=>KJ lp G call k (rg R q0) (rg R q3)) (.s .n (.b (.l _ (N9 lp G call k) (λR H n=>(rg R q0,rg R q3,rg R q42,rg R q43,rg R q44,H,n)) λih30=>.n))) (.j (λR=>O9 lp G call k) (.s .n (.b (.l _ (Ue lp G call k) (λR H n=>(rg R q0,rg R q73,rg R q74,rg R q75,H,n)) λih15=>.n))) .n)))))
theorem Ya{lp:Au}(hL:D7 lp)(G:AQ):O0 G 41 (RP (KW lp G)):=
 .mk SY <| sf2 hL (an:=qV lp G) (λ_ _=>obs (by kernel_rfl)) λcall a0 a1 H n k=>by kernel_rfl
def oh(lp:Au)(G:AQ)(call:AX)(k:KV):An:=.n
theorem YW{lp:Au}(hL:D7 lp)(G:AQ):O0 G 42 (RP (LM lp G)):=
 .mk SX <| sf2 hL (an:=oh lp G) (λ_ _=>obs (by kernel_rfl)) λcall a0 a1 H n k=>by kernel_rfl
def mO(lp:Au)(G:AQ)(call:AX)(k:KV):An:=(.s .n (.s .n (.j (λR=>O8 lp G call k (rg R q7)) (.s .n (.b (.l _ (Un lp G call k) (λR H n=>(rg R q0,rg R q2,rg R q7,rg R q23,rg R q24,rg R q25,H,n)) λih9=>.n))) .n)))
theorem XT{lp:Au}(hL:D7 lp)(G:AQ):O0 G 43 (ar3 (J3 lp G)):=
 .mk Qx <| sf3 hL (an:=mO lp G) (λ_ _=>obs (by kernel_rfl)) λcall a0 a1 a2 H n k=>by kernel_rfl
def mQ(lp:Au)(G:AQ)(call:AX)(k:KV):An:=(.s .n (.j (λR=>Pv lp G call k (rg R q4)) (.s .n (.b (.l _ (UL lp G call k) (λR H n=>(rg R q1,rg R q4,rg R q9,rg R q10,rg R q11,H,n)) λih9=>.n))) .n))
theorem XM{lp:Au}(hL:D7 lp)(G:AQ):O0 G 44 (RP (Jo lp G)):=
 .mk RF <| sf2 hL (an:=mQ lp G) (λ_ _=>obs (by kernel_rfl)) λcall a0 a1 H n k=>by kernel_rfl
def wQ(lp:Au)(G:AQ)(call:AX)(k:KV):An:=.n
theorem aN{lp:Au}(hL:D7 lp)(G:AQ):O0 G 45 (RP (O4 lp G)):=
 .mk VO <| sf2 hL (an:=wQ lp G) (λ_ _=>obs (by kernel_rfl)) λcall a0 a1 H n k=>by kernel_rfl
def Ud(lp:Au)(G:AQ)(call:AX)(k:KV):An:=.n
theorem Kt{lp:Au}(hL:D7 lp)(G:AQ):O0 G 46 (RP (Dw lp G)):=
 .mk Gp <| sf2 hL (an:=Ud lp G) (λ_ _=>obs (by kernel_rfl)) λcall a0 a1 H n k=>by kernel_rfl
def l9(lp:Au)(G:AQ)(call:AX)(k:KV):An:=(.s .n (.j (λR=>PO lp G call k) (.s .n (.b (.l _ (Uh lp G call k) (λR H n=>(rg R q0,rg R q9,rg R q10,rg R q11,H,n)) λih3=>(.s .n (.s .n (.j (λR=>G7 lp G call k ih3 (rg R q0) (rg R q9) (rg R q10) (rg R q11)) .n .n)))))) .n))
theorem XF{lp:Au}(hL:D7 lp)(G:AQ):O0 G 47 (RP (J6 lp G)):=
 .mk RN <| sf2 hL (an:=l9 lp G) (λ_ _=>obs (by kernel_rfl)) λcall a0 a1 H n k=>by kernel_rfl
def gY(lp:Au)(G:AQ)(call:AX)(k:KV):An:=(.s .n (.s .n (.s .n (.j (λR=>F5 lp G call k (rg R q0) (rg R q3) (rg R q4)) .n (.s .n (.s .n (.s .n (.j (λR=>Ld lp G call k) (.b (.l _ (KP lp G call k) (λR H n=>(rg R q0,H,n)) λih30=>.n)) .n))))))))
theorem VI{lp:Au}(hL:D7 lp)(G:AQ):O0 G 49 (KL (Ig lp G)):=
 .mk Pm <| qp hL (an:=gY lp G) (λ_ _=>obs (by kernel_rfl)) λcall a0 H n k=>by kernel_rfl
def AIi(lp:Au)(G:AQ)(call:AX)(k:KV):An:=.n
theorem ACP{lp:Au}(hL:D7 lp)(G:AQ):O0 G 50 (KL (jD lp G)):=
 .mk vS <| qp hL (an:=AIi lp G) (λ_ _=>obs (by kernel_rfl)) λcall a0 H n k=>by kernel_rfl
def dU(lp:Au)(G:AQ)(call:AX)(k:KV):An:=(.s .n (.s .n (.s .n (.s .n (.j (λR=>FI lp G call k (rg R q0) (rg R q2) (rg R q8)) (.s .n (.b (.l _ (Jy lp G call k) (λR H n=>(rg R q0,rg R q2,rg R q3,rg R q8,rg R q61,rg R q62,H,n)) λih77=>.n))) (.s .n (.b (.l _ (QM lp G call k) (λR H n=>(rg R q0,rg R q2,rg R q8,rg R AUf,rg R AVC,H,n)) λih39=>.n))))))))
theorem Uz{lp:Au}(hL:D7 lp)(G:AQ):O0 G 51 (ar4 (He lp G)):=
 .mk Nz <| sf4 hL (an:=dU lp G) (λ_ _=>obs (by kernel_rfl)) λcall a0 a1 a2 a3 H n k=>by kernel_rfl
def iU(lp:Au)(G:AQ)(call:AX)(k:KV):An:=(.s .n (.s .n (.s .n (.s .n (.s .n (.s .n (.s .n (.s .n (.s .n (.s .n (.j (λR=>Ad lp G call k (rg R q1) (rg R q2) (rg R q4) (rg R q5) (rg R q6)) (.s .n (.b (.s .n (.c .n (.s .n (.c .n (.s .n (.c .n (.s .n (.c (.j (λR=>Dp lp G call k (rg R q1) (rg R q2) (rg R q4) (rg R q5) (rg R q6) (rg R q9)) .n .n) (.s .n (.c .n (.j (λR=>BD lp G call k (rg R q1) (rg R q2) (rg R q4) (rg R q5) (rg R q6) (rg R q7) (rg R q8) (rg R q9) (rg R q10) (rg R q11) (rg R q12) (rg R q54) (rg R q97)) .n (.c .n (.j (λR=>DR lp G call k (rg R q1) (rg R q2) (rg R q4) (rg R q5) (rg R q6) (rg R q7) (rg R q8) (rg R q9) (rg R q10) (rg R q11) (rg R q12) (rg R q54) (rg R AUx)) .n (.c .n (.j (λR=>Ce lp G call k (rg R q1) (rg R q2) (rg R q4) (rg R q5) (rg R q6) (rg R q7) (rg R q8) (rg R q9) (rg R q10) (rg R q11) (rg R q12) (rg R q54) (rg R AUK)) .n (.c (.s .n (.s .n (.j (λR=>DX lp G call k (rg R q1) (rg R q2) (rg R q4) (rg R q5) (rg R q6) (rg R q9) (rg R q11)) .n .n))) (.s .n (.c .n (.s .n (.c .n (.s .n (.c .n (.s .n (.c .n (.s .n (.c .n (.s .n (.c .n (.s .n (.c .n (.s .n (.c .n (.s .n (.c (.j (λR=>CP lp G call k (rg R q1) (rg R q2) (rg R q4) (rg R q5) (rg R q6) (rg R q9) (rg R q10)) .n .n) (.j (λR=>Ci lp G call k (rg R q1) (rg R q2) (rg R q4) (rg R q5) (rg R q6) (rg R q7) (rg R q8) (rg R q9) (rg R q10) (rg R q11) (rg R q54) (rg R AUb)) .n (.c (.j (λR=>DZ lp G call k (rg R q1) (rg R q2) (rg R q4) (rg R q5) (rg R q6) (rg R q9) (rg R q11)) .n .n) (.j (λR=>DT lp G call k (rg R q1) (rg R q2) (rg R q4) (rg R q5) (rg R q6) (rg R q7) (rg R q8) (rg R q9) (rg R q10) (rg R q11) (rg R q54) (rg R AUt)) .n (.c (.s .n (.j (λR=>DW lp G call k (rg R q1) (rg R q2) (rg R q4) (rg R q5) (rg R q6) (rg R q8) (rg R q9) (rg R q17)) .n (.j (λR=>G5 lp G call k (rg R q1) (rg R q2) (rg R q4) (rg R q5) (rg R q6) (rg R q8) (rg R q9) (rg R q17)) (.s .n (.b (.l _ (QJ lp G call k) (λR H n=>(rg R q1,rg R q2,rg R q4,rg R q5,rg R q6,rg R q8,rg R q9,rg R q17,rg R q18,H,n)) λih347=>.n))) (.j (λR=>FK lp G call k (rg R q1) (rg R q2) (rg R q4) (rg R q5) (rg R q6) (rg R q9) (rg R q17)) .n .n)))) .n)))))))))))))))))))))))))))))))))))))))) (.s .n (.j (λR=>DJ lp G call k (rg R q1) (rg R q2) (rg R q4) (rg R q5) (rg R q6)) .n .n)))))))))))))
theorem VD{lp:Au}(hL:D7 lp)(G:AQ):O0 G 52 (RP (Ih lp G)):=
 .mk Pq <| sf2 hL (an:=iU lp G) (λ_ _=>obs (by kernel_rfl)) λcall a0 a1 H n k=>by kernel_rfl
def lD(lp:Au)(G:AQ)(call:AX)(k:KV):An:=(.s .n (.s .n (.j (λR=>OB lp G call k (rg R q9)) (.s .n (.b (.l _ (Tc lp G call k) (λR H n=>(rg R q0,rg R q2,rg R q3,rg R q9,rg R q25,rg R q26,rg R q27,H,n)) λih9=>.n))) .n)))
theorem V8{lp:Au}(hL:D7 lp)(G:AQ):O0 G 53 (ar4 (JB lp G)):=
 .mk QS <| sf4 hL (an:=lD lp G) (λ_ _=>obs (by kernel_rfl)) λcall a0 a1 a2 a3 H n k=>by kernel_rfl
def uZ(lp:Au)(G:AQ)(call:AX)(k:KV):An:=.n
theorem bY{lp:Au}(hL:D7 lp)(G:AQ):O0 G 56 (KL (Oz lp G)):=
 .mk VR <| qp hL (an:=uZ lp G) (λ_ _=>obs (by kernel_rfl)) λcall a0 H n k=>by kernel_rfl
def uY(lp:Au)(G:AQ)(call:AX)(k:KV):An:=(.s .n (.s .n (.j (λR=>Qz lp G call k (rg R q1)) (.s .n (.b (.l _ (WR lp G call k) (λR H n=>(rg R q1,rg R q32,rg R q33,rg R q34,H,n)) λih66=>.n))) (.j (λR=>RJ lp G call k) (.s .n (.b (.l _ (Vs lp G call k) (λR H n=>(rg R q51,rg R q52,rg R q53,H,n)) λih26=>(.s .n (.s .n (.j (λR=>Q7 lp G call k ih26 (rg R q51) (rg R q52) (rg R q53)) (.b (.s .n (.s .n (.s .n (.b (.l _ (Vr lp G call k ih26) (λR H n=>(rg R q51,rg R q52,rg R q53,rg R q75,rg R q76,rg R q77,H,n)) λih52=>.n)))))) .n)))))) .n))))
theorem bU{lp:Au}(hL:D7 lp)(G:AQ):O0 G 57 (KL (Ou lp G)):=
 .mk VT <| qp hL (an:=uY lp G) (λ_ _=>obs (by kernel_rfl)) λcall a0 H n k=>by kernel_rfl
def o7(lp:Au)(G:AQ)(call:AX)(k:KV):An:=(.s .n (.s .n (.s .n (.j (λR=>PI lp G call k (rg R q1)) (.s .n (.b (.l _ (JY lp G call k) (λR H n=>(rg R q1,rg R q3,rg R q50,rg R q51,rg R q52,H,n)) λih77=>.n))) (.s .n (.j (λR=>Px lp G call k) (.s .n (.b (.l _ (OI lp G call k) (λR H n=>(rg R q3,rg R q76,rg R q77,rg R q78,H,n)) λih43=>.n))) .n))))))
theorem Xz{lp:Au}(hL:D7 lp)(G:AQ):O0 G 58 (KL (LH lp G)):=
 .mk SA <| qp hL (an:=o7 lp G) (λ_ _=>obs (by kernel_rfl)) λcall a0 H n k=>by kernel_rfl
def nM(lp:Au)(G:AQ)(call:AX)(k:KV):An:=(.s .n (.j (λR=>PX lp G call k (rg R q1)) (.s .n (.b (.l _ (Mc lp G call k) (λR H n=>(rg R q1,rg R q28,rg R q29,rg R q30,H,n)) λih97=>.n))) (.j (λR=>PE lp G call k (rg R q1)) (.s .n (.b (.l _ (MW lp G call k) (λR H n=>(rg R q1,rg R q38,rg R q39,rg R q40,H,n)) λih73=>.n))) (.j (λR=>Pg lp G call k (rg R q1)) (.s .n (.b (.l _ (Nh lp G call k) (λR H n=>(rg R q1,rg R q49,rg R q50,rg R q51,H,n)) λih60=>.n))) (.j (λR=>PV lp G call k (rg R q1)) (.s .n (.b (.l _ (Nb lp G call k) (λR H n=>(rg R q1,rg R q60,rg R q61,rg R q62,H,n)) λih29=>.n))) (.j (λR=>PZ lp G call k) (.s .n (.b (.l _ (NK lp G call k) (λR H n=>(rg R q92,rg R q93,rg R q94,H,n)) λih10=>.n))) .n))))))
theorem XJ{lp:Au}(hL:D7 lp)(G:AQ):O0 G 59 (KL (Jv lp G)):=
 .mk RH <| qp hL (an:=nM lp G) (λ_ _=>obs (by kernel_rfl)) λcall a0 H n k=>by kernel_rfl
def uH(lp:Au)(G:AQ)(call:AX)(k:KV):An:=.n
theorem Yx{lp:Au}(hL:D7 lp)(G:AQ):O0 G 60 (RP (Md lp G)):=
 .mk UE <| sf2 hL (an:=uH lp G) (λ_ _=>obs (by kernel_rfl)) λcall a0 a1 H n k=>by kernel_rfl
def pG(lp:Au)(G:AQ)(call:AX)(k:KV):An:=.n
theorem YV{lp:Au}(hL:D7 lp)(G:AQ):O0 G 61 (RP (LU lp G)):=
 .mk SH <| sf2 hL (an:=pG lp G) (λ_ _=>obs (by kernel_rfl)) λcall a0 a1 H n k=>by kernel_rfl
def ABg(lp:Au)(G:AQ)(call:AX)(k:KV):An:=(.s .n (.j (λR=>Rx lp G call k (rg R q1)) (.s .n (.b (.l _ (ZU lp G call k) (λR H n=>(rg R q1,rg R q7,rg R q8,H,n)) λih29=>.n))) (.j (λR=>Wu lp G call k) (.s .n (.b (.l _ (aj lp G call k) (λR H n=>(rg R q1,rg R q32,rg R q33,H,n)) λih7=>.n))) .n)))
theorem nR{lp:Au}(hL:D7 lp)(G:AQ):O0 G 62 (KL (UR lp G)):=
 .mk Zg <| qp hL (an:=ABg lp G) (λ_ _=>obs (by kernel_rfl)) λcall a0 H n k=>by kernel_rfl
def oL(lp:Au)(G:AQ)(call:AX)(k:KV):An:=(.s .n (.j (λR=>QZ lp G call k (rg R q4)) (.s .n (.b (.l _ (U6 lp G call k) (λR H n=>(rg R q1,rg R q4,rg R q9,rg R q10,rg R q11,H,n)) λih9=>.n))) .n))
theorem YN{lp:Au}(hL:D7 lp)(G:AQ):O0 G 63 (RP (LJ lp G)):=
 .mk SG <| sf2 hL (an:=oL lp G) (λ_ _=>obs (by kernel_rfl)) λcall a0 a1 H n k=>by kernel_rfl
def Tf(lp:Au)(G:AQ)(call:AX)(k:KV):An:=(.s .n (.s .n (.j (λR=>Fb lp G call k) (.s .n (.b (.l _ (I9 lp G call k) (λR H n=>(rg R q0,rg R q1,rg R q12,rg R q13,H,n)) λih6=>.n))) .n)))
theorem KN{lp:Au}(hL:D7 lp)(G:AQ):O0 G 64 (RP (Dk lp G)):=
 .mk GI <| sf2 hL (an:=Tf lp G) (λ_ _=>obs (by kernel_rfl)) λcall a0 a1 H n k=>by kernel_rfl
def V3(lp:Au)(G:AQ)(call:AX)(k:KV):An:=(.s .n (.j (λR=>Gu lp G call k) (.s .n (.b (.l _ (LD lp G call k) (λR H n=>(rg R q0,rg R q1,rg R q7,rg R q8,H,n)) λih3=>.n))) .n))
theorem Nq{lp:Au}(hL:D7 lp)(G:AQ):O0 G 65 (RP (EH lp G)):=
 .mk IY <| sf2 hL (an:=V3 lp G) (λ_ _=>obs (by kernel_rfl)) λcall a0 a1 H n k=>by kernel_rfl
def ADR(lp:Au)(G:AQ)(call:AX)(k:KV):An:=.n
theorem rZ{lp:Au}(hL:D7 lp)(G:AQ):O0 G 66 (KL (WO lp G)):=
 .mk fB <| qp hL (an:=ADR lp G) (λ_ _=>obs (by kernel_rfl)) λcall a0 H n k=>by kernel_rfl
def sW(lp:Au)(G:AQ)(call:AX)(k:KV):An:=.n
theorem ZC{lp:Au}(hL:D7 lp)(G:AQ):O0 G 67 (KL (NM lp G)):=
 .mk Uu <| qp hL (an:=sW lp G) (λ_ _=>obs (by kernel_rfl)) λcall a0 H n k=>by kernel_rfl
def dN(lp:Au)(G:AQ)(call:AX)(k:KV):An:=(.s .n (.s .n (.s .n (.s .n (.s .n (.s .n (.j (λR=>Gz lp G call k (rg R q0) (rg R q1) (rg R q5) (rg R q7) (rg R q9)) (.s .n (.b (.l _ (Gg lp G call k) (λR H n=>(rg R q0,rg R q1,rg R q5,rg R q7,rg R q9,rg R q63,rg R q64,rg R q65,H,n)) λih93=>.n))) (.j (λR=>Ey lp G call k (rg R q0) (rg R q1) (rg R q9)) (.s .n (.b (.l _ (Ju lp G call k) (λR H n=>(rg R q0,rg R q1,rg R q7,rg R q9,rg R ATN,rg R ASY,rg R ATf,H,n)) λih53=>.n))) (.j (λR=>G6 lp G call k) .n .n)))))))))
theorem Tz{lp:Au}(hL:D7 lp)(G:AQ):O0 G 70 (ar3 (IE lp G)):=
 .mk Oc <| sf3 hL (an:=dN lp G) (λ_ _=>obs (by kernel_rfl)) λcall a0 a1 a2 H n k=>by kernel_rfl
def iE(lp:Au)(G:AQ)(call:AX)(k:KV):An:=.n
theorem VG{lp:Au}(hL:D7 lp)(G:AQ):O0 G 71 (KL (Ib lp G)):=
 .mk Po <| qp hL (an:=iE lp G) (λ_ _=>obs (by kernel_rfl)) λcall a0 H n k=>by kernel_rfl
def dY(lp:Au)(G:AQ)(call:AX)(k:KV):An:=(.s .n (.s .n (.s (.s .n (.b (.s .n (.c .n (.s .n (.c .n (.s .n (.c .n (.s .n (.c .n (.s .n (.c .n (.j (λR=>Bq lp G call k (rg R q0) (rg R q1) (rg R q5) (rg R q7) (rg R q8) (rg R q20) (rg R q80)) .n (.c .n (.j (λR=>DY lp G call k (rg R q0) (rg R q1) (rg R q5) (rg R q7) (rg R q8) (rg R q20) (rg R q98)) .n (.c .n (.s .n (.c .n (.s .n (.c .n (.j (λR=>DV lp G call k (rg R q0) (rg R q1) (rg R q5) (rg R q7) (rg R q8) (rg R q20) (rg R AU3)) .n .n))))))))))))))))))))) .n)))
theorem UK{lp:Au}(hL:D7 lp)(G:AQ):O0 G 72 (ar3 (HY lp G)):=
 .mk OJ <| sf3 hL (an:=dY lp G) (λ_ _=>obs (by kernel_rfl)) λcall a0 a1 a2 H n k=>by kernel_rfl
def aS(lp:Au)(G:AQ)(call:AX)(k:KV):An:=.n
theorem TS{lp:Au}(hL:D7 lp)(G:AQ):O0 G 73 (ar3 (GK lp G)):=
 .mk NZ <| sf3 hL (an:=aS lp G) (λ_ _=>obs (by kernel_rfl)) λcall a0 a1 a2 H n k=>by kernel_rfl
def eF(lp:Au)(G:AQ)(call:AX)(k:KV):An:=(.s .n (.s .n (.s .n (.s .n (.s .n (.s .n (.j (λR=>FB lp G call k (rg R q6)) (.s .n (.c (.s .n (.s .n (.b (.l _ (QN lp G call k) (λR H n=>(rg R q0,rg R q5,rg R q6,rg R q55,rg R q56,rg R q57,H,n)) λih45=>.n)))) .n)) .n)))))))
theorem U0{lp:Au}(hL:D7 lp)(G:AQ):O0 G 74 (ar3 (Hf lp G)):=
 .mk Nw <| sf3 hL (an:=eF lp G) (λ_ _=>obs (by kernel_rfl)) λcall a0 a1 a2 H n k=>by kernel_rfl
def bW(lp:Au)(G:AQ)(call:AX)(k:KV):An:=.n
theorem TJ{lp:Au}(hL:D7 lp)(G:AQ):O0 G 75 (RP (Gh lp G)):=
 .mk Nl <| sf2 hL (an:=bW lp G) (λ_ _=>obs (by kernel_rfl)) λcall a0 a1 H n k=>by kernel_rfl
def bP(lp:Au)(G:AQ)(call:AX)(k:KV):An:=.n
theorem TI{lp:Au}(hL:D7 lp)(G:AQ):O0 G 76 (ar3 (GU lp G)):=
 .mk NW <| sf3 hL (an:=bP lp G) (λ_ _=>obs (by kernel_rfl)) λcall a0 a1 a2 H n k=>by kernel_rfl
def og(lp:Au)(G:AQ)(call:AX)(k:KV):An:=.n
theorem Yg{lp:Au}(hL:D7 lp)(G:AQ):O0 G 77 (ar3 (Kr lp G)):=
 .mk Rz <| sf3 hL (an:=og lp G) (λ_ _=>obs (by kernel_rfl)) λcall a0 a1 a2 H n k=>by kernel_rfl
def aB(lp:Au)(G:AQ)(call:AX)(k:KV):An:=.n
theorem TG{lp:Au}(hL:D7 lp)(G:AQ):O0 G 78 (ar3 (GR lp G)):=
 .mk NC <| sf3 hL (an:=aB lp G) (λ_ _=>obs (by kernel_rfl)) λcall a0 a1 a2 H n k=>by kernel_rfl
def AEq(lp:Au)(G:AQ)(call:AX)(k:KV):An:=.n
theorem xQ{lp:Au}(hL:D7 lp)(G:AQ):O0 G 79 (ar0 (Xw lp G)):=
 .mk jf <| sf0 hL (an:=AEq lp G) (λ_ _=>obs (by kernel_rfl)) λcall H n k=>by kernel_rfl
def aF(lp:Au)(G:AQ)(call:AX)(k:KV):An:=(.s .n (.s .n (.j (λR=>Eh lp G call k (rg R q2) (rg R q3)) .n .n)))
theorem TY{lp:Au}(hL:D7 lp)(G:AQ):O0 G 80 (RP (Gf lp G)):=
 .mk NI <| sf2 hL (an:=aF lp G) (λ_ _=>obs (by kernel_rfl)) λcall a0 a1 H n k=>by kernel_rfl
def AAt(lp:Au)(G:AQ)(call:AX)(k:KV):An:=.n
theorem kH{lp:Au}(hL:D7 lp)(G:AQ):O0 G 81 (ar0 (Rn lp G)):=
 .mk Yc <| sf0 hL (an:=AAt lp G) (λ_ _=>obs (by kernel_rfl)) λcall H n k=>by kernel_rfl
def qA(lp:Au)(G:AQ)(call:AX)(k:KV):An:=.n
theorem YO{lp:Au}(hL:D7 lp)(G:AQ):O0 G 82 (KL (KT lp G)):=
 .mk SI <| qp hL (an:=qA lp G) (λ_ _=>obs (by kernel_rfl)) λcall a0 H n k=>by kernel_rfl
def wG(lp:Au)(G:AQ)(call:AX)(k:KV):An:=.n
theorem bQ{lp:Au}(hL:D7 lp)(G:AQ):O0 G 83 (KL (O3 lp G)):=
 .mk VY <| qp hL (an:=wG lp G) (λ_ _=>obs (by kernel_rfl)) λcall a0 H n k=>by kernel_rfl
def O7(lp:Au)(G:AQ)(call:AX)(k:KV):An:=.n
theorem IB{lp:Au}(hL:D7 lp)(G:AQ):O0 G 90 (RP (CU lp G)):=
 .mk EU <| sf2 hL (an:=O7 lp G) (λ_ _=>obs (by kernel_rfl)) λcall a0 a1 H n k=>by kernel_rfl
def kJ(lp:Au)(G:AQ)(call:AX)(k:KV):An:=.n
theorem Vt{lp:Au}(hL:D7 lp)(G:AQ):O0 G 91 (KL (JC lp G)):=
 .mk QW <| qp hL (an:=kJ lp G) (λ_ _=>obs (by kernel_rfl)) λcall a0 H n k=>by kernel_rfl
def AAU(lp:Au)(G:AQ)(call:AX)(k:KV):An:=.n
theorem kY{lp:Au}(hL:D7 lp)(G:AQ):O0 G 92 (KL (RZ lp G)):=
 .mk X6 <| qp hL (an:=AAU lp G) (λ_ _=>obs (by kernel_rfl)) λcall a0 H n k=>by kernel_rfl
def ADb(lp:Au)(G:AQ)(call:AX)(k:KV):An:=.n
theorem rE{lp:Au}(hL:D7 lp)(G:AQ):O0 G 93 (KL (Vz lp G)):=
 .mk eG <| qp hL (an:=ADb lp G) (λ_ _=>obs (by kernel_rfl)) λcall a0 H n k=>by kernel_rfl
def jY(lp:Au)(G:AQ)(call:AX)(k:KV):An:=.n
theorem Vq{lp:Au}(hL:D7 lp)(G:AQ):O0 G 94 (ar3 (JG lp G)):=
 .mk Qc <| sf3 hL (an:=jY lp G) (λ_ _=>obs (by kernel_rfl)) λcall a0 a1 a2 H n k=>by kernel_rfl
def AAL(lp:Au)(G:AQ)(call:AX)(k:KV):An:=(.s .n (.j (λR=>MZ lp G call k (rg R q6)) .n .n))
theorem jv{lp:Au}(hL:D7 lp)(G:AQ):O0 G 95 (ar3 (Rj lp G)):=
 .mk Yk <| sf3 hL (an:=AAL lp G) (λ_ _=>obs (by kernel_rfl)) λcall a0 a1 a2 H n k=>by kernel_rfl
def Tj(lp:Au)(G:AQ)(call:AX)(k:KV):An:=.n
theorem KO{lp:Au}(hL:D7 lp)(G:AQ):O0 G 96 (KL (Dj lp G)):=
 .mk GH <| qp hL (an:=Tj lp G) (λ_ _=>obs (by kernel_rfl)) λcall a0 H n k=>by kernel_rfl
def dM(lp:Au)(G:AQ)(call:AX)(k:KV):An:=.n
theorem Ut{lp:Au}(hL:D7 lp)(G:AQ):O0 G 97 (ar3 (G8 lp G)):=
 .mk OT <| sf3 hL (an:=dM lp G) (λ_ _=>obs (by kernel_rfl)) λcall a0 a1 a2 H n k=>by kernel_rfl
def iq(lp:Au)(G:AQ)(call:AX)(k:KV):An:=.n
theorem Vw{lp:Au}(hL:D7 lp)(G:AQ):O0 G 98 (KL (JK lp G)):=
 .mk QK <| qp hL (an:=iq lp G) (λ_ _=>obs (by kernel_rfl)) λcall a0 H n k=>by kernel_rfl
def gZ(lp:Au)(G:AQ)(call:AX)(k:KV):An:=(.s .n (.j (λR=>Na lp G call k) (.s .n (.b (.l _ (Rh lp G call k) (λR H n=>(rg R q0,rg R q1,rg R q2,rg R q7,H,n)) λih4=>.n))) .n))
theorem U7{lp:Au}(hL:D7 lp)(G:AQ):O0 G 99 (ar3 (Ie lp G)):=
 .mk PL <| sf3 hL (an:=gZ lp G) (λ_ _=>obs (by kernel_rfl)) λcall a0 a1 a2 H n k=>by kernel_rfl
def Zq(lp:Au)(G:AQ)(call:AX)(k:KV):An:=(.s .n (.s (.s .n (.b (.s .n (.c .n (.s .n (.c .n (.j (λR=>Dv lp G call k (rg R q0) (rg R q1) (rg R q5) (rg R q14) (rg R q66)) .n (.c (.s .n (.s .n (.j (λR=>DI lp G call k (rg R q0) (rg R q1) (rg R q7) (rg R q8) (rg R q9)) .n .n))) (.s .n (.c .n (.s .n (.c .n (.j (λR=>Dc lp G call k (rg R q0) (rg R q1) (rg R q5) (rg R AUk)) .n .n))))))))))))) .n))
theorem RU{lp:Au}(hL:D7 lp)(G:AQ):O0 G 100 (ar3 (Fv lp G)):=
 .mk Lu <| sf3 hL (an:=Zq lp G) (λ_ _=>obs (by kernel_rfl)) λcall a0 a1 a2 H n k=>by kernel_rfl
def Zv(lp:Au)(G:AQ)(call:AX)(k:KV):An:=.n
theorem Ri{lp:Au}(hL:D7 lp)(G:AQ):O0 G 101 (KL (F6 lp G)):=
 .mk Ls <| qp hL (an:=Zv lp G) (λ_ _=>obs (by kernel_rfl)) λcall a0 H n k=>by kernel_rfl
def Zk(lp:Au)(G:AQ)(call:AX)(k:KV):An:=.n
theorem RQ{lp:Au}(hL:D7 lp)(G:AQ):O0 G 102 (KL (Fq lp G)):=
 .mk Ll <| qp hL (an:=Zk lp G) (λ_ _=>obs (by kernel_rfl)) λcall a0 H n k=>by kernel_rfl
def mG(lp:Au)(G:AQ)(call:AX)(k:KV):An:=.n
theorem XW{lp:Au}(hL:D7 lp)(G:AQ):O0 G 103 (ar3 (J8 lp G)):=
 .mk Q9 <| sf3 hL (an:=mG lp G) (λ_ _=>obs (by kernel_rfl)) λcall a0 a1 a2 H n k=>by kernel_rfl
def Qi(lp:Au)(G:AQ)(call:AX)(k:KV):An:=(.s .n (.j (λR=>Ea lp G call k) (.s .n (.b (.l _ (Hl lp G call k) (λR H n=>(rg R q0,rg R q1,rg R q7,rg R q8,H,n)) λih3=>.n))) .n))
theorem I4{lp:Au}(hL:D7 lp)(G:AQ):O0 G 108 (RP (Cj lp G)):=
 .mk Eo <| sf2 hL (an:=Qi lp G) (λ_ _=>obs (by kernel_rfl)) λcall a0 a1 H n k=>by kernel_rfl
def ku(lp:Au)(G:AQ)(call:AX)(k:KV):An:=(.s .n (.s .n (.j (λR=>Nv lp G call k) (.s .n (.b (.l _ (TP lp G call k) (λR H n=>(rg R q0,rg R q2,rg R q17,rg R q18,rg R q19,H,n)) λih6=>.n))) .n)))
theorem WL{lp:Au}(hL:D7 lp)(G:AQ):O0 G 109 (ar3 (JJ lp G)):=
 .mk Qb <| sf3 hL (an:=ku lp G) (λ_ _=>obs (by kernel_rfl)) λcall a0 a1 a2 H n k=>by kernel_rfl
def au(lp:Au)(G:AQ)(call:AX)(k:KV):An:=.n
theorem TN{lp:Au}(hL:D7 lp)(G:AQ):O0 G 110 (ar3 (GZ lp G)):=
 .mk NJ <| sf3 hL (an:=au lp G) (λ_ _=>obs (by kernel_rfl)) λcall a0 a1 a2 H n k=>by kernel_rfl
def FS(lp:Au)(G:AQ):T SF:=(.n none (.n none (.n none (.n none (.n none (.n (some (RP (nS lp G))) (.n (some (RP (LJ lp G))) .e .e) (.n (some (ar3 (Rj lp G))) .e .e)) (.n (some (RP (J6 lp G))) (.n (some (ar0 (Xw lp G))) .e .e) .e)) (.n none (.n (some (KL (Xu lp G))) (.n (some (KL (Ib lp G))) .e .e) (.n (some (ar3 (J8 lp G))) .e .e)) .e)) (.n none (.n (some (RP (Jp lp G))) (.n (some (KL (QT lp G))) (.n (some (KL (NM lp G))) .e .e) (.n (some (ar3 (Ie lp G))) .e .e)) (.n (some (ar4 (He lp G))) (.n (some (KL (O3 lp G))) .e .e) .e)) (.n (some (ar3 (La lp G))) (.n (some (ar3 (J3 lp G))) (.n (some (RP (Gh lp G))) .e .e) .e) (.n (some (KL (Jv lp G))) (.n (some (KL (JC lp G))) .e .e) .e)))) (.n none (.n none (.n (some (RP (LK lp G))) (.n (some (ar3 (gK lp G))) (.n (some (RP (EH lp G))) .e .e) (.n (some (ar3 (G8 lp G))) .e .e)) (.n (some (KL (Ig lp G))) (.n (some (ar0 (Rn lp G))) .e .e) .e)) (.n (some (ar0 (bC lp G))) (.n (some (RP (KW lp G))) (.n (some (ar3 (GK lp G))) .e .e) .e) (.n (some (KL (Ou lp G))) .e .e))) (.n (some (KL (Om lp G))) (.n (some (RP (LZ lp G))) (.n (some (KL (O1 lp G))) .e (.n (some (KL (F6 lp G))) .e .e)) (.n (some (ar4 (JB lp G))) .e .e)) (.n (some (ar0 (aK lp G))) (.n (some (RP (O4 lp G))) (.n (some (ar3 (Kr lp G))) .e .e) (.n (some (ar3 (JJ lp G))) .e .e)) (.n (some (RP (LU lp G))) (.n (some (KL (Vz lp G))) .e .e) .e))))) (.n none (.n none (.n none (.n none (.n (some (KL (ZK lp G))) (.n (some (RP (Dk lp G))) .e .e) (.n (some (KL (Dj lp G))) .e .e)) (.n none (.n (some (RP (Gf lp G))) .e .e) .e)) (.n none (.n (some (RP (Jz lp G))) (.n (some (ar3 (HY lp G))) .e .e) .e) (.n (some (KL (Oz lp G))) .e .e))) (.n none (.n none (.n none .e (.n (some (ar3 (Fv lp G))) .e .e)) (.n (some (RP (Ih lp G))) .e .e)) (.n none (.n (some (RP (Jo lp G))) (.n (some (ar3 (GU lp G))) .e .e) (.n (some (RP (Cj lp G))) .e .e)) (.n (some (RP (Md lp G))) (.n (some (KL (RZ lp G))) .e .e) .e)))) (.n (some (KL (GY lp G))) (.n none (.n (some (KL (Jl lp G))) (.n (some (KL (QY lp G))) (.n (some (KL (WO lp G))) .e .e) (.n (some (KL (JK lp G))) .e .e)) (.n (some (KL (jD lp G))) (.n (some (KL (KT lp G))) .e .e) .e)) (.n (some (KL (QF lp G))) (.n (some (RP (LM lp G))) (.n (some (ar3 (Hf lp G))) .e .e) .e) (.n (some (KL (LH lp G))) (.n (some (RP (CU lp G))) .e .e) .e))) (.n (some (KL (V7 lp G))) (.n none (.n (some (KL (Jr lp G))) (.n (some (ar3 (IE lp G))) .e .e) (.n (some (KL (Fq lp G))) .e .e)) .e) (.n none (.n (some (RP (Dw lp G))) (.n (some (ar3 (GR lp G))) .e .e) (.n (some (ar3 (GZ lp G))) .e .e)) (.n (some (KL (UR lp G))) (.n (some (ar3 (JG lp G))) .e .e) .e))))))
theorem APL{lp:Au}(hL:D7 lp)(G:AQ):T.All (λp s=>O0 G p.key s) (FS lp G):=(.n0 (.n0 (.n0 (.n0 (.n0 (.n1 (AAD hL G) (.n1 (YN hL G) .e .e) (.n1 (jv hL G) .e .e)) (.n1 (XF hL G) (.n1 (xQ hL G) .e .e) .e)) (.n0 (.n1 (wo hL G) (.n1 (VG hL G) .e .e) (.n1 (XW hL G) .e .e)) .e)) (.n0 (.n1 (XR hL G) (.n1 (fP hL G) (.n1 (ZC hL G) .e .e) (.n1 (U7 hL G) .e .e)) (.n1 (Uz hL G) (.n1 (bQ hL G) .e .e) .e)) (.n1 (Yj hL G) (.n1 (XT hL G) (.n1 (TJ hL G) .e .e) .e) (.n1 (XJ hL G) (.n1 (Vt hL G) .e .e) .e)))) (.n0 (.n0 (.n1 (YM hL G) (.n1 (wE hL G) (.n1 (Nq hL G) .e .e) (.n1 (Ut hL G) .e .e)) (.n1 (VI hL G) (.n1 (kH hL G) .e .e) .e)) (.n1 (rO hL G) (.n1 (Ya hL G) (.n1 (TS hL G) .e .e) .e) (.n1 (bU hL G) .e .e))) (.n1 (bf hL G) (.n1 (Yl hL G) (.n1 (aT hL G) .e (.n1 (Ri hL G) .e .e)) (.n1 (V8 hL G) .e .e)) (.n1 (AA4 hL G) (.n1 (aN hL G) (.n1 (Yg hL G) .e .e) (.n1 (WL hL G) .e .e)) (.n1 (YV hL G) (.n1 (rE hL G) .e .e) .e))))) (.n0 (.n0 (.n0 (.n0 (.n1 (pK hL G) (.n1 (KN hL G) .e .e) (.n1 (KO hL G) .e .e)) (.n0 (.n1 (TY hL G) .e .e) .e)) (.n0 (.n1 (XK hL G) (.n1 (UK hL G) .e .e) .e) (.n1 (bY hL G) .e .e))) (.n0 (.n0 (.n0 .e (.n1 (RU hL G) .e .e)) (.n1 (VD hL G) .e .e)) (.n0 (.n1 (XM hL G) (.n1 (TI hL G) .e .e) (.n1 (I4 hL G) .e .e)) (.n1 (Yx hL G) (.n1 (kY hL G) .e .e) .e)))) (.n1 (TA hL G) (.n0 (.n1 (Xa hL G) (.n1 (fO hL G) (.n1 (rZ hL G) .e .e) (.n1 (Vw hL G) .e .e)) (.n1 (ACP hL G) (.n1 (YO hL G) .e .e) .e)) (.n1 (gW hL G) (.n1 (YW hL G) (.n1 (U0 hL G) .e .e) .e) (.n1 (Xz hL G) (.n1 (IB hL G) .e .e) .e))) (.n1 (uS hL G) (.n0 (.n1 (XE hL G) (.n1 (Tz hL G) .e .e) (.n1 (RQ hL G) .e .e)) .e) (.n0 (.n1 (Kt hL G) (.n1 (TG hL G) .e .e) (.n1 (TN hL G) .e .e)) (.n1 (nR hL G) (.n1 (Vq hL G) .e .e) .e))))))
theorem ASz{lp:Au}(hL:D7 lp)(G:AQ):AKJ F G (FS lp G):=λf s h=>by
 have:=T.All.Dz (p:=Ot f) (APL hL G) h
 rw[y9]at this
 obtain⟨h,o⟩:=this
 exact⟨_,h,o⟩
end Go.RL
