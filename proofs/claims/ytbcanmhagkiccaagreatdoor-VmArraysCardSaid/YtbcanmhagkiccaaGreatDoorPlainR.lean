/- Part of a proof; nothing is assumed. -/
import Derived.Test.YtbcanmhagkiccaaGreatDoorPlainB
import Derived.Test.YtbcanmhagkiccaaGreatDoorCode
import Derived.Test.YtbcanmhagkiccaaGreatDoorEngE
set_option linter.unusedVariables false
set_option linter.unusedSimpArgs false
noncomputable section
namespace Go.R5
open Go.Eng
set_option maxRecDepth 100000
inductive BN(G:AQ)(n:Nat)(s:SF):Prop where
 |mk {af:AF} (h:T.get F n=some af) (o:Jy G af s):BN G n s
def AdW(lp:Aa)(G:AQ)(call:AP)(k:KV):An:=.n
theorem Aaf{lp:Aa}(hL:Ar lp)(G:AQ):BN G 4 (yh (Aa8 lp G)):=
 .mk Abv <| sf0 hL (an:=AdW lp G) (λ_ _=>obs (by kernel_rfl)) λcall H n k=>by kernel_rfl
def Ace(lp:Aa)(G:AQ)(call:AP)(k:KV):An:=(.s .n (.s .n (.j (λR=>nM lp G call k (rg R q5)) (.s .n (.b (.l _ (XL lp G call k) (λR H n=>(rg R q5,rg R wU,rg R VN,rg R fZ,H,n)) λih29=>.n))) (.s .n (.s .n (.j (λR=>oG lp G call k (rg R q10) (rg R q11)) (.s .n (.b (.l _ (fJ lp G call k) (λR H n=>(rg R q10,rg R q11,rg R q39,rg R q40,rg R q41,H,n)) λih7=>.n))) .n))))))
theorem Acv{lp:Aa}(hL:Ar lp)(G:AQ):BN G 5 (CQ (Abw lp G)):=
 .mk Aci <| EO hL (an:=Ace lp G) (λ_ _=>obs (by kernel_rfl)) λcall a0 H n k=>by kernel_rfl
def AbB(lp:Aa)(G:AQ)(call:AP)(k:KV):An:=.n
theorem AbH{lp:Aa}(hL:Ar lp)(G:AQ):BN G 6 (Bj (AcI lp G)):=
 .mk Aar <| D6 hL (an:=AbB lp G) (λ_ _=>obs (by kernel_rfl)) λcall a0 a1 H n k=>by kernel_rfl
def Aah(lp:Aa)(G:AQ)(call:AP)(k:KV):An:=(.s .n (.s .n (.s .n (.s .n (.s .n (.j (λR=>iJ lp G call k (rg R q1) (rg R q10) (rg R q13) (rg R q15) (rg R q16)) (.s .n (.b (.l _ (WZ lp G call k) (λR H n=>(rg R q1,rg R q10,rg R q13,rg R q15,rg R q16,rg R q58,rg R q59,rg R q60,H,n)) λih67=>.n))) .n))))))
theorem AdK{lp:Aa}(hL:Ar lp)(G:AQ):BN G 7 (RU (AcZ lp G)):=
 .mk AdU <| sf5 hL (an:=Aah lp G) (λ_ _=>obs (by kernel_rfl)) λcall a0 a1 a2 a3 a4 H n k=>by kernel_rfl
def AcE(lp:Aa)(G:AQ)(call:AP)(k:KV):An:=.n
theorem AdX{lp:Aa}(hL:Ar lp)(G:AQ):BN G 8 (CQ (Acn lp G)):=
 .mk Adg <| EO hL (an:=AcE lp G) (λ_ _=>obs (by kernel_rfl)) λcall a0 H n k=>by kernel_rfl
def AcS(lp:Aa)(G:AQ)(call:AP)(k:KV):An:=(.s .n (.s .n (.j (λR=>mM lp G call k (rg R q3)) (.s .n (.b (.l _ (dW lp G call k) (λR H n=>(rg R q3,rg R q7,rg R q8,rg R q9,H,n)) λih5=>.n))) .n)))
theorem Acs{lp:Aa}(hL:Ar lp)(G:AQ):BN G 9 (CQ (Abd lp G)):=
 .mk Ab5 <| EO hL (an:=AcS lp G) (λ_ _=>obs (by kernel_rfl)) λcall a0 H n k=>by kernel_rfl
def ATE(lp:Aa)(G:AQ)(call:AP)(k:KV):An:=(.s .n (.s .n (.s .n (.s .n (.s .n (.s .n (.j (λR=>Xi lp G call k (rg R q3) (rg R q4) (rg R q5) (rg R q9)) (.s .n (.b (.l _ (S9 lp G call k) (λR H n=>(rg R q3,rg R q4,rg R q5,rg R q9,rg R q52,rg R q53,rg R q54,H,n)) λih61=>.n))) .n)))))))
theorem AUR{lp:Aa}(hL:Ar lp)(G:AQ):BN G 10 (Bj (AP2 lp G)):=
 .mk AZx <| D6 hL (an:=ATE lp G) (λ_ _=>obs (by kernel_rfl)) λcall a0 a1 H n k=>by kernel_rfl
def AWx(lp:Aa)(G:AQ)(call:AP)(k:KV):An:=(.s .n (.s .n (.j (λR=>dh lp G call k (rg R q6)) (.s .n (.b (.l _ (XC lp G call k) (λR H n=>(rg R q0,rg R q6,rg R q12,rg R q13,rg R Vh,H,n)) λih4=>.n))) .n)))
theorem AUe{lp:Aa}(hL:Ar lp)(G:AQ):BN G 11 (Bj (ARm lp G)):=
 .mk AZ7 <| D6 hL (an:=AWx lp G) (λ_ _=>obs (by kernel_rfl)) λcall a0 a1 H n k=>by kernel_rfl
def AVx(lp:Aa)(G:AQ)(call:AP)(k:KV):An:=(.s .n (.s .n (.s .n (.s .n (.j (λR=>fD lp G call k (rg R q0) (rg R q4) (rg R q5)) (.s .n (.b (.l _ (Uh lp G call k) (λR H n=>(rg R q0,rg R q4,rg R q5,rg R fZ,rg R Vx,rg R jI,H,n)) λih33=>.n))) (.s .n (.j (λR=>YJ lp G call k (rg R q5)) (.s .n (.b (.l _ (Ue lp G call k) (λR H n=>(rg R q5,rg R q73,rg R q74,rg R q75,H,n)) λih13=>.n))) .n)))))))
theorem AXg{lp:Aa}(hL:Ar lp)(G:AQ):BN G 12 (CQ (AQd lp G)):=
 .mk AaH <| EO hL (an:=AVx lp G) (λ_ _=>obs (by kernel_rfl)) λcall a0 H n k=>by kernel_rfl
def AUK(lp:Aa)(G:AQ)(call:AP)(k:KV):An:=(.s .n (.j (λR=>jA lp G call k (rg R q2)) (.s .n (.b (.l _ (Xo lp G call k) (λR H n=>(rg R q0,rg R q2,rg R q12,rg R q13,rg R Vh,H,n)) λih7=>(.s .n (.s .n (.j (λR=>eF lp G call k ih7 (rg R q0) (rg R q2) (rg R q12) (rg R q13) (rg R Vh)) (.b (.s .n (.s .n (.s .n (.b (.l _ (Um lp G call k ih7) (λR H n=>(rg R q0,rg R q2,rg R q4,rg R q5,rg R q12,rg R q13,rg R Vh,rg R q26,rg R q27,rg R q28,H,n)) λih22=>.n)))))) .n)))))) .n))
theorem AT3{lp:Aa}(hL:Ar lp)(G:AQ):BN G 13 (CQ (APp lp G)):=
 .mk AXk <| EO hL (an:=AUK lp G) (λ_ _=>obs (by kernel_rfl)) λcall a0 H n k=>by kernel_rfl
def AZ6(lp:Aa)(G:AQ)(call:AP)(k:KV):An:=(.s .n (.s .n (.j (λR=>dR lp G call k (rg R q9)) (.s .n (.b (.l _ (X3 lp G call k) (λR H n=>(rg R q0,rg R q2,rg R q3,rg R q9,rg R q25,rg R q26,rg R q27,H,n)) λih9=>.n))) .n)))
theorem AYZ{lp:Aa}(hL:Ar lp)(G:AQ):BN G 14 (P5 (ASY lp G)):=
 .mk AVw <| sf4 hL (an:=AZ6 lp G) (λ_ _=>obs (by kernel_rfl)) λcall a0 a1 a2 a3 H n k=>by kernel_rfl
def AVj(lp:Aa)(G:AQ)(call:AP)(k:KV):An:=.n
theorem AXG{lp:Aa}(hL:Ar lp)(G:AQ):BN G 15 (yh (ARj lp G)):=
 .mk AVL <| sf0 hL (an:=AVj lp G) (λ_ _=>obs (by kernel_rfl)) λcall H n k=>by kernel_rfl
def AWV(lp:Aa)(G:AQ)(call:AP)(k:KV):An:=.n
theorem AZ8{lp:Aa}(hL:Ar lp)(G:AQ):BN G 16 (Bj (ASu lp G)):=
 .mk ATj <| D6 hL (an:=AWV lp G) (λ_ _=>obs (by kernel_rfl)) λcall a0 a1 H n k=>by kernel_rfl
def AZY(lp:Aa)(G:AQ)(call:AP)(k:KV):An:=.n
theorem AV4{lp:Aa}(hL:Ar lp)(G:AQ):BN G 17 (CQ (AP3 lp G)):=
 .mk AZJ <| EO hL (an:=AZY lp G) (λ_ _=>obs (by kernel_rfl)) λcall a0 H n k=>by kernel_rfl
def ATc(lp:Aa)(G:AQ)(call:AP)(k:KV):An:=.n
theorem AXK{lp:Aa}(hL:Ar lp)(G:AQ):BN G 18 (ar3 (ARi lp G)):=
 .mk AV2 <| sf3 hL (an:=ATc lp G) (λ_ _=>obs (by kernel_rfl)) λcall a0 a1 a2 H n k=>by kernel_rfl
def AVK(lp:Aa)(G:AQ)(call:AP)(k:KV):An:=(.s .n (.s .n (.s .n (.j (λR=>IK lp G call k (rg R q2) (rg R q3)) (.b (.l _ (Xe lp G call k) (λR H n=>(rg R q0,rg R q2,rg R q3,H,n)) λih6=>.n)) .n))))
theorem AV6{lp:Aa}(hL:Ar lp)(G:AQ):BN G 19 (CQ (AQy lp G)):=
 .mk AWZ <| EO hL (an:=AVK lp G) (λ_ _=>obs (by kernel_rfl)) λcall a0 H n k=>by kernel_rfl
def AUY(lp:Aa)(G:AQ)(call:AP)(k:KV):An:=(.s .n (.s .n (.s .n (.s .n (.b (.l _ (Si lp G call k) (λR H n=>(rg R q3,rg R q4,rg R q5,H,n)) λih12=>.n))))))
theorem ATT{lp:Aa}(hL:Ar lp)(G:AQ):BN G 20 (CQ (AQe lp G)):=
 .mk AUj <| EO hL (an:=AUY lp G) (λ_ _=>obs (by kernel_rfl)) λcall a0 H n k=>by kernel_rfl
def AUI(lp:Aa)(G:AQ)(call:AP)(k:KV):An:=(.s .n (.s .n (.s .n (.s .n (.j (λR=>LZ lp G call k (rg R q0) (rg R q2) (rg R q3)) .n (.s .n (.j (λR=>XE lp G call k (rg R q0) (rg R q2) (rg R q3)) (.b (.l _ (TB lp G call k) (λR H n=>(rg R q0,rg R q2,rg R q3,H,n)) λih34=>.n)) (.j (λR=>LD lp G call k (rg R q2) (rg R q3)) .n .n))))))))
theorem AX9{lp:Aa}(hL:Ar lp)(G:AQ):BN G 21 (CQ (AP4 lp G)):=
 .mk AUT <| EO hL (an:=AUI lp G) (λ_ _=>obs (by kernel_rfl)) λcall a0 H n k=>by kernel_rfl
def AVu(lp:Aa)(G:AQ)(call:AP)(k:KV):An:=.n
theorem AWr{lp:Aa}(hL:Ar lp)(G:AQ):BN G 22 (CQ (ASV lp G)):=
 .mk AYk <| EO hL (an:=AVu lp G) (λ_ _=>obs (by kernel_rfl)) λcall a0 H n k=>by kernel_rfl
def AWm(lp:Aa)(G:AQ)(call:AP)(k:KV):An:=(.s .n (.s .n (.j (λR=>Xc lp G call k (rg R q2) (rg R q3)) (.s .n (.b (.l _ (Va lp G call k) (λR H n=>(rg R q2,rg R q3,rg R q15,rg R q16,rg R wU,H,n)) λih20=>.n))) .n)))
theorem AUs{lp:Aa}(hL:Ar lp)(G:AQ):BN G 23 (CQ (AQO lp G)):=
 .mk AWR <| EO hL (an:=AWm lp G) (λ_ _=>obs (by kernel_rfl)) λcall a0 H n k=>by kernel_rfl
def AYa(lp:Aa)(G:AQ)(call:AP)(k:KV):An:=(.s .n (.s .n (.j (λR=>fE lp G call k (rg R q3)) (.s .n (.b (.l _ (Wq lp G call k) (λR H n=>(rg R q3,rg R q10,rg R q11,rg R q12,H,n)) λih7=>.n))) .n)))
theorem AZT{lp:Aa}(hL:Ar lp)(G:AQ):BN G 24 (CQ (AR1 lp G)):=
 .mk AZU <| EO hL (an:=AYa lp G) (λ_ _=>obs (by kernel_rfl)) λcall a0 H n k=>by kernel_rfl
def AVV(lp:Aa)(G:AQ)(call:AP)(k:KV):An:=.n
theorem AWl{lp:Aa}(hL:Ar lp)(G:AQ):BN G 25 (Bj (APj lp G)):=
 .mk AYi <| D6 hL (an:=AVV lp G) (λ_ _=>obs (by kernel_rfl)) λcall a0 a1 H n k=>by kernel_rfl
def AVU(lp:Aa)(G:AQ)(call:AP)(k:KV):An:=.n
theorem AaA{lp:Aa}(hL:Ar lp)(G:AQ):BN G 26 (Bj (AQp lp G)):=
 .mk AZz <| D6 hL (an:=AVU lp G) (λ_ _=>obs (by kernel_rfl)) λcall a0 a1 H n k=>by kernel_rfl
def AT1(lp:Aa)(G:AQ)(call:AP)(k:KV):An:=(.s .n (.s .n (.s .n (.s .n (.s .n (.s .n (.j (λR=>WX lp G call k (rg R q0) (rg R q5)) (.s .n (.b (.l _ (Tq lp G call k) (λR H n=>(rg R q0,rg R q5,rg R q67,rg R q68,rg R q69,H,n)) λih74=>.n))) (.j (λR=>X8 lp G call k) (.s .n (.b (.l _ (UQ lp G call k) (λR H n=>(rg R q0,rg R q5,rg R q92,rg R q93,rg R q94,H,n)) λih37=>.n))) .n))))))))
theorem AYy{lp:Aa}(hL:Ar lp)(G:AQ):BN G 27 (Bj (ARb lp G)):=
 .mk AWt <| D6 hL (an:=AT1 lp G) (λ_ _=>obs (by kernel_rfl)) λcall a0 a1 H n k=>by kernel_rfl
def AYv(lp:Aa)(G:AQ)(call:AP)(k:KV):An:=.n
theorem ATm{lp:Aa}(hL:Ar lp)(G:AQ):BN G 28 (CQ (ARa lp G)):=
 .mk AVi <| EO hL (an:=AYv lp G) (λ_ _=>obs (by kernel_rfl)) λcall a0 H n k=>by kernel_rfl
def ATG(lp:Aa)(G:AQ)(call:AP)(k:KV):An:=(.s .n (.s .n (.j (λR=>YR lp G call k (rg R q0) (rg R q3) (rg R q4)) (.s .n (.b (.l _ (Vb lp G call k) (λR H n=>(rg R q0,rg R q3,rg R q4,rg R q16,rg R wU,rg R VN,H,n)) λih22=>.n))) .n)))
theorem AWo{lp:Aa}(hL:Ar lp)(G:AQ):BN G 29 (Bj (ARL lp G)):=
 .mk ATP <| D6 hL (an:=ATG lp G) (λ_ _=>obs (by kernel_rfl)) λcall a0 a1 H n k=>by kernel_rfl
def AUd(lp:Aa)(G:AQ)(call:AP)(k:KV):An:=(.s .n (.s .n (.s .n (.s .n (.j (λR=>Xq lp G call k (rg R q4) (rg R q6)) (.s .n (.b (.l _ (Sj lp G call k) (λR H n=>(rg R q4,rg R q6,rg R jI,rg R q22,rg R q23,H,n)) λih25=>.n))) .n)))))
theorem ATq{lp:Aa}(hL:Ar lp)(G:AQ):BN G 30 (Bj (AQD lp G)):=
 .mk AZI <| D6 hL (an:=AUd lp G) (λ_ _=>obs (by kernel_rfl)) λcall a0 a1 H n k=>by kernel_rfl
def AWX(lp:Aa)(G:AQ)(call:AP)(k:KV):An:=(.s .n (.s .n (.j (λR=>YB lp G call k) (.s .n (.b (.l _ (Vs lp G call k) (λR H n=>(rg R q1,rg R q30,rg R q31,rg R q32,H,n)) λih24=>(.s .n (.s .n (.j (λR=>XJ lp G call k ih24 (rg R q1) (rg R q30) (rg R q31) (rg R q32)) (.b (.s .n (.s .n (.s .n (.j (λR=>ML lp G call k ih24 (rg R q1) (rg R q4) (rg R q6) (rg R q30) (rg R q31) (rg R q32)) .n (.s .n (.s .n (.b (.l _ (Uc lp G call k ih24) (λR H n=>(rg R q1,rg R q4,rg R q30,rg R q31,rg R q32,rg R q83,rg R q84,rg R q85,H,n)) λih71=>.n))))))))) .n)))))) .n)))
theorem AV5{lp:Aa}(hL:Ar lp)(G:AQ):BN G 31 (CQ (AR5 lp G)):=
 .mk AUy <| EO hL (an:=AWX lp G) (λ_ _=>obs (by kernel_rfl)) λcall a0 H n k=>by kernel_rfl
def AYK(lp:Aa)(G:AQ)(call:AP)(k:KV):An:=(.s .n (.j (λR=>iQ lp G call k (rg R q0) (rg R q3)) (.s .n (.b (.l _ (TT lp G call k) (λR H n=>(rg R q0,rg R q3,rg R wU,rg R VN,rg R fZ,H,n)) λih61=>.n))) (.s .n (.j (λR=>XP lp G call k (rg R q0) (rg R q3)) (.s .n (.b (.l _ (U8 lp G call k) (λR H n=>(rg R q0,rg R q3,rg R q42,rg R q43,rg R q44,H,n)) λih30=>.n))) (.j (λR=>WL lp G call k) (.s .n (.b (.l _ (Vq lp G call k) (λR H n=>(rg R q0,rg R q73,rg R q74,rg R q75,H,n)) λih15=>.n))) .n)))))
theorem AWP{lp:Aa}(hL:Ar lp)(G:AQ):BN G 32 (Bj (ASd lp G)):=
 .mk AXt <| D6 hL (an:=AYK lp G) (λ_ _=>obs (by kernel_rfl)) λcall a0 a1 H n k=>by kernel_rfl
def AWA(lp:Aa)(G:AQ)(call:AP)(k:KV):An:=.n
theorem AY2{lp:Aa}(hL:Ar lp)(G:AQ):BN G 33 (CQ (APs lp G)):=
 .mk AXj <| EO hL (an:=AWA lp G) (λ_ _=>obs (by kernel_rfl)) λcall a0 H n k=>by kernel_rfl
def AXY(lp:Aa)(G:AQ)(call:AP)(k:KV):An:=.n
theorem AZV{lp:Aa}(hL:Ar lp)(G:AQ):BN G 34 (Bj (AQ6 lp G)):=
 .mk AUw <| D6 hL (an:=AXY lp G) (λ_ _=>obs (by kernel_rfl)) λcall a0 a1 H n k=>by kernel_rfl
def AZD(lp:Aa)(G:AQ)(call:AP)(k:KV):An:=(.s .n (.s .n (.s .n (.j (λR=>U4 lp G call k (rg R q0) (rg R q3) (rg R q4)) .n (.s .n (.s .n (.s .n (.j (λR=>WY lp G call k) (.b (.l _ (SY lp G call k) (λR H n=>(rg R q0,H,n)) λih30=>.n)) .n))))))))
theorem AXp{lp:Aa}(hL:Ar lp)(G:AQ):BN G 35 (CQ (AQ2 lp G)):=
 .mk AV9 <| EO hL (an:=AZD lp G) (λ_ _=>obs (by kernel_rfl)) λcall a0 H n k=>by kernel_rfl
def AYb(lp:Aa)(G:AQ)(call:AP)(k:KV):An:=(.s .n (.s .n (.j (λR=>iZ lp G call k (rg R q6)) (.b (.l _ (Wu lp G call k) (λR H n=>(rg R q0,rg R q1,rg R q6,H,n)) λih2=>.n)) .n)))
theorem AX2{lp:Aa}(hL:Ar lp)(G:AQ):BN G 36 (Bj (AR0 lp G)):=
 .mk ATt <| D6 hL (an:=AYb lp G) (λ_ _=>obs (by kernel_rfl)) λcall a0 a1 H n k=>by kernel_rfl
def AUB(lp:Aa)(G:AQ)(call:AP)(k:KV):An:=(.s .n (.j (λR=>jB lp G call k (rg R q4)) (.s .n (.b (.l _ (Xw lp G call k) (λR H n=>(rg R q1,rg R q4,rg R q9,rg R q10,rg R q11,H,n)) λih9=>.n))) .n))
theorem AUM{lp:Aa}(hL:Ar lp)(G:AQ):BN G 37 (Bj (ASN lp G)):=
 .mk ATJ <| D6 hL (an:=AUB lp G) (λ_ _=>obs (by kernel_rfl)) λcall a0 a1 H n k=>by kernel_rfl
def AUF(lp:Aa)(G:AQ)(call:AP)(k:KV):An:=(.s .n (.j (λR=>eu lp G call k) (.s .n (.b (.l _ (YN lp G call k) (λR H n=>(rg R q0,rg R q1,rg R q7,rg R q8,H,n)) λih3=>.n))) .n))
theorem AZ1{lp:Aa}(hL:Ar lp)(G:AQ):BN G 38 (Bj (ASP lp G)):=
 .mk AUH <| D6 hL (an:=AUF lp G) (λ_ _=>obs (by kernel_rfl)) λcall a0 a1 H n k=>by kernel_rfl
def ATQ(lp:Aa)(G:AQ)(call:AP)(k:KV):An:=(.s .n (.s .n (.j (λR=>X7 lp G call k) (.s .n (.b (.l _ (SN lp G call k) (λR H n=>(rg R q0,rg R q3,rg R q24,rg R q25,rg R q26,H,n)) λih12=>.n))) .n)))
theorem AVF{lp:Aa}(hL:Ar lp)(G:AQ):BN G 39 (Bj (ASj lp G)):=
 .mk AXA <| D6 hL (an:=ATQ lp G) (λ_ _=>obs (by kernel_rfl)) λcall a0 a1 H n k=>by kernel_rfl
def AX4(lp:Aa)(G:AQ)(call:AP)(k:KV):An:=(.s .n (.s .n (.j (λR=>dP lp G call k (rg R q6)) (.s .n (.b (.l _ (Uy lp G call k) (λR H n=>(rg R q2,rg R q6,rg R q8,rg R Vx,rg R jI,rg R q22,H,n)) λih14=>.n))) .n)))
theorem AY8{lp:Aa}(hL:Ar lp)(G:AQ):BN G 40 (ar3 (AQI lp G)):=
 .mk AZg <| sf3 hL (an:=AX4 lp G) (λ_ _=>obs (by kernel_rfl)) λcall a0 a1 a2 H n k=>by kernel_rfl
def AYd(lp:Aa)(G:AQ)(call:AP)(k:KV):An:=.n
theorem AYB{lp:Aa}(hL:Ar lp)(G:AQ):BN G 41 (Bj (AS0 lp G)):=
 .mk AZc <| D6 hL (an:=AYd lp G) (λ_ _=>obs (by kernel_rfl)) λcall a0 a1 H n k=>by kernel_rfl
def AT2(lp:Aa)(G:AQ)(call:AP)(k:KV):An:=.n
theorem AWi{lp:Aa}(hL:Ar lp)(G:AQ):BN G 42 (CQ (ART lp G)):=
 .mk AZG <| EO hL (an:=AT2 lp G) (λ_ _=>obs (by kernel_rfl)) λcall a0 H n k=>by kernel_rfl
def ATB(lp:Aa)(G:AQ)(call:AP)(k:KV):An:=(.s .n (.s .n (.b (.s .n (.c .n (.s .n (.c .n (.s .n (.c .n (.s .n (.c .n (.s .n (.c .n (.s .n (.c .n (.s .n (.c .n (.s .n (.c .n (.s .n (.c .n (.s .n (.c .n (.s .n (.c .n (.j (λR=>EC lp G call k (rg R q0) (rg R q1) (rg R q5) (rg R Afz)) .n .n))))))))))))))))))))))))))
theorem AVJ{lp:Aa}(hL:Ar lp)(G:AQ):BN G 43 (ar3 (ARu lp G)):=
 .mk AZW <| sf3 hL (an:=ATB lp G) (λ_ _=>obs (by kernel_rfl)) λcall a0 a1 a2 H n k=>by kernel_rfl
def AVQ(lp:Aa)(G:AQ)(call:AP)(k:KV):An:=.n
theorem AUL{lp:Aa}(hL:Ar lp)(G:AQ):BN G 44 (ar3 (AQN lp G)):=
 .mk AZr <| sf3 hL (an:=AVQ lp G) (λ_ _=>obs (by kernel_rfl)) λcall a0 a1 a2 H n k=>by kernel_rfl
def AZo(lp:Aa)(G:AQ)(call:AP)(k:KV):An:=.n
theorem AZZ{lp:Aa}(hL:Ar lp)(G:AQ):BN G 45 (ar3 (ARY lp G)):=
 .mk ATV <| sf3 hL (an:=AZo lp G) (λ_ _=>obs (by kernel_rfl)) λcall a0 a1 a2 H n k=>by kernel_rfl
def AWN(lp:Aa)(G:AQ)(call:AP)(k:KV):An:=(.b (.l _ (XV lp G call k) (λR H n=>(rg R q0,H,n)) λih1=>(.s .n (.b (.s .n (.b (.s .n (.c .n (.s .n (.c (.s .n (.j (λR=>LP lp G call k ih1 (rg R q0) (rg R q3)) .n .n)) .n))))))))))
theorem AVz{lp:Aa}(hL:Ar lp)(G:AQ):BN G 46 (CQ (APl lp G)):=
 .mk AYQ <| EO hL (an:=AWN lp G) (λ_ _=>obs (by kernel_rfl)) λcall a0 H n k=>by kernel_rfl
def AXL(lp:Aa)(G:AQ)(call:AP)(k:KV):An:=(.s .n (.s .n (.s .n (.s .n (.j (λR=>Ez lp G call k (rg R q0) (rg R q2) (rg R q4)) (.b (.s .n (.c .n (.s .n (.c .n (.s .n (.c .n (.s .n (.b (.l _ (SX lp G call k) (λR H n=>(rg R q0,rg R q2,rg R q4,rg R q34,rg R q35,H,n)) λih81=>.n)))))))))) .n)))))
theorem AYc{lp:Aa}(hL:Ar lp)(G:AQ):BN G 47 (CQ (ARt lp G)):=
 .mk AXc <| EO hL (an:=AXL lp G) (λ_ _=>obs (by kernel_rfl)) λcall a0 H n k=>by kernel_rfl
def AUi(lp:Aa)(G:AQ)(call:AP)(k:KV):An:=(.s .n (.b (.l _ (Xx lp G call k) (λR H n=>(rg R q0,rg R q6,rg R q7,rg R q8,H,n)) λih2=>(.s .n (.s .n (.j (λR=>Ub lp G call k ih2 (rg R q0) (rg R q6) (rg R q7) (rg R q8)) .n .n))))))
theorem AYW{lp:Aa}(hL:Ar lp)(G:AQ):BN G 48 (Bj (AQX lp G)):=
 .mk AVe <| D6 hL (an:=AUi lp G) (λ_ _=>obs (by kernel_rfl)) λcall a0 a1 H n k=>by kernel_rfl
def AYL(lp:Aa)(G:AQ)(call:AP)(k:KV):An:=.n
theorem AUN{lp:Aa}(hL:Ar lp)(G:AQ):BN G 49 (Bj (AR9 lp G)):=
 .mk AVm <| D6 hL (an:=AYL lp G) (λ_ _=>obs (by kernel_rfl)) λcall a0 a1 H n k=>by kernel_rfl
def AUo(lp:Aa)(G:AQ)(call:AP)(k:KV):An:=.n
theorem AVO{lp:Aa}(hL:Ar lp)(G:AQ):BN G 50 (Bj (ASw lp G)):=
 .mk AXd <| D6 hL (an:=AUo lp G) (λ_ _=>obs (by kernel_rfl)) λcall a0 a1 H n k=>by kernel_rfl
def AU6(lp:Aa)(G:AQ)(call:AP)(k:KV):An:=(.s .n (.s .n (.j (λR=>SC lp G call k (rg R q2) (rg R q3)) .n .n)))
theorem AZk{lp:Aa}(hL:Ar lp)(G:AQ):BN G 51 (CQ (AQb lp G)):=
 .mk AYu <| EO hL (an:=AU6 lp G) (λ_ _=>obs (by kernel_rfl)) λcall a0 H n k=>by kernel_rfl
def AZN(lp:Aa)(G:AQ)(call:AP)(k:KV):An:=.n
theorem AVa{lp:Aa}(hL:Ar lp)(G:AQ):BN G 52 (Bj (ASW lp G)):=
 .mk AXw <| D6 hL (an:=AZN lp G) (λ_ _=>obs (by kernel_rfl)) λcall a0 a1 H n k=>by kernel_rfl
def AYs(lp:Aa)(G:AQ)(call:AP)(k:KV):An:=(.s .n (.j (λR=>iI lp G call k) (.s .n (.b (.l _ (YL lp G call k) (λR H n=>(rg R q0,rg R q7,rg R q8,rg R q9,H,n)) λih3=>.n))) .n))
theorem ATK{lp:Aa}(hL:Ar lp)(G:AQ):BN G 53 (Bj (AR8 lp G)):=
 .mk AZA <| D6 hL (an:=AYs lp G) (λ_ _=>obs (by kernel_rfl)) λcall a0 a1 H n k=>by kernel_rfl
def AWg(lp:Aa)(G:AQ)(call:AP)(k:KV):An:=(.s .n (.s .n (.s .n (.s .n (.s .n (.s .n (.s .n (.j (λR=>Xf lp G call k (rg R q0) (rg R q2) (rg R q4)) (.b (.l _ (Ur lp G call k) (λR H n=>(rg R q0,rg R q2,rg R q4,H,n)) λih31=>(.s .n (.b (.j (λR=>Lj lp G call k ih31 (rg R q0) (rg R q2) (rg R q4)) .n .n))))) .n))))))))
theorem AY6{lp:Aa}(hL:Ar lp)(G:AQ):BN G 54 (CQ (ASJ lp G)):=
 .mk AYe <| EO hL (an:=AWg lp G) (λ_ _=>obs (by kernel_rfl)) λcall a0 H n k=>by kernel_rfl
def AV3(lp:Aa)(G:AQ)(call:AP)(k:KV):An:=.n
theorem AVk{lp:Aa}(hL:Ar lp)(G:AQ):BN G 55 (Bj (APn lp G)):=
 .mk AWJ <| D6 hL (an:=AV3 lp G) (λ_ _=>obs (by kernel_rfl)) λcall a0 a1 H n k=>by kernel_rfl
def AXE(lp:Aa)(G:AQ)(call:AP)(k:KV):An:=.n
theorem ATS{lp:Aa}(hL:Ar lp)(G:AQ):BN G 56 (CQ (ARl lp G)):=
 .mk ATn <| EO hL (an:=AXE lp G) (λ_ _=>obs (by kernel_rfl)) λcall a0 H n k=>by kernel_rfl
def ATf(lp:Aa)(G:AQ)(call:AP)(k:KV):An:=(.s .n (.s .n (.j (λR=>X5 lp G call k (rg R q2) (rg R q3)) (.s .n (.b (.l _ (UG lp G call k) (λR H n=>(rg R q2,rg R q3,rg R Vh,rg R q15,rg R q16,H,n)) λih18=>.n))) .n)))
theorem AVB{lp:Aa}(hL:Ar lp)(G:AQ):BN G 57 (CQ (ARB lp G)):=
 .mk AXT <| EO hL (an:=ATf lp G) (λ_ _=>obs (by kernel_rfl)) λcall a0 H n k=>by kernel_rfl
def AWD(lp:Aa)(G:AQ)(call:AP)(k:KV):An:=.n
theorem ATr{lp:Aa}(hL:Ar lp)(G:AQ):BN G 58 (CQ (AP6 lp G)):=
 .mk AVd <| EO hL (an:=AWD lp G) (λ_ _=>obs (by kernel_rfl)) λcall a0 H n k=>by kernel_rfl
def AXB(lp:Aa)(G:AQ)(call:AP)(k:KV):An:=(.s .n (.s .n (.j (λR=>iY lp G call k) (.s .n (.b (.l _ (Wh lp G call k) (λR H n=>(rg R q0,rg R q1,rg R q12,rg R q13,H,n)) λih6=>.n))) .n)))
theorem AUf{lp:Aa}(hL:Ar lp)(G:AQ):BN G 59 (Bj (ASq lp G)):=
 .mk ATO <| D6 hL (an:=AXB lp G) (λ_ _=>obs (by kernel_rfl)) λcall a0 a1 H n k=>by kernel_rfl
def AYr(lp:Aa)(G:AQ)(call:AP)(k:KV):An:=(.s .n (.s .n (.j (λR=>iy lp G call k) (.s .n (.b (.l _ (Xu lp G call k) (λR H n=>(rg R q1,rg R q2,rg R q15,rg R q16,rg R wU,H,n)) λih6=>.n))) .n)))
theorem AXJ{lp:Aa}(hL:Ar lp)(G:AQ):BN G 60 (ar3 (ARs lp G)):=
 .mk AXb <| sf3 hL (an:=AYr lp G) (λ_ _=>obs (by kernel_rfl)) λcall a0 a1 a2 H n k=>by kernel_rfl
def ATk(lp:Aa)(G:AQ)(call:AP)(k:KV):An:=.n
theorem AZ9{lp:Aa}(hL:Ar lp)(G:AQ):BN G 61 (Bj (ASb lp G)):=
 .mk AUv <| D6 hL (an:=ATk lp G) (λ_ _=>obs (by kernel_rfl)) λcall a0 a1 H n k=>by kernel_rfl
def ATA(lp:Aa)(G:AQ)(call:AP)(k:KV):An:=.n
theorem AU1{lp:Aa}(hL:Ar lp)(G:AQ):BN G 62 (Bj (AP1 lp G)):=
 .mk ATh <| D6 hL (an:=ATA lp G) (λ_ _=>obs (by kernel_rfl)) λcall a0 a1 H n k=>by kernel_rfl
def AWF(lp:Aa)(G:AQ)(call:AP)(k:KV):An:=(.s .n (.j (λR=>gY lp G call k (rg R q1)) (.s .n (.b (.l _ (VJ lp G call k) (λR H n=>(rg R q1,rg R q7,rg R q8,H,n)) λih29=>.n))) (.j (λR=>iW lp G call k) (.s .n (.b (.l _ (WW lp G call k) (λR H n=>(rg R q1,rg R q32,rg R q33,H,n)) λih7=>.n))) .n)))
theorem AUC{lp:Aa}(hL:Ar lp)(G:AQ):BN G 63 (CQ (AQj lp G)):=
 .mk AWh <| EO hL (an:=AWF lp G) (λ_ _=>obs (by kernel_rfl)) λcall a0 H n k=>by kernel_rfl
def AU8(lp:Aa)(G:AQ)(call:AP)(k:KV):An:=(.s .n (.j (λR=>fA lp G call k) (.s .n (.b (.l _ (Xm lp G call k) (λR H n=>(rg R q0,rg R q9,rg R q10,rg R q11,H,n)) λih3=>(.s .n (.s .n (.j (λR=>TU lp G call k ih3 (rg R q0) (rg R q9) (rg R q10) (rg R q11)) .n .n)))))) .n))
theorem AV1{lp:Aa}(hL:Ar lp)(G:AQ):BN G 64 (Bj (AQJ lp G)):=
 .mk AZB <| D6 hL (an:=AU8 lp G) (λ_ _=>obs (by kernel_rfl)) λcall a0 a1 H n k=>by kernel_rfl
def AY0(lp:Aa)(G:AQ)(call:AP)(k:KV):An:=(.s .n (.s .n (.j (λR=>dF lp G call k (rg R q7)) (.s .n (.b (.l _ (YQ lp G call k) (λR H n=>(rg R q0,rg R q2,rg R q7,rg R q23,rg R q24,rg R q25,H,n)) λih9=>.n))) .n)))
theorem AWy{lp:Aa}(hL:Ar lp)(G:AQ):BN G 65 (ar3 (ARV lp G)):=
 .mk AVE <| sf3 hL (an:=AY0 lp G) (λ_ _=>obs (by kernel_rfl)) λcall a0 a1 a2 H n k=>by kernel_rfl
def AX3(lp:Aa)(G:AQ)(call:AP)(k:KV):An:=.n
theorem AU4{lp:Aa}(hL:Ar lp)(G:AQ):BN G 66 (ar3 (APi lp G)):=
 .mk AXu <| sf3 hL (an:=AX3 lp G) (λ_ _=>obs (by kernel_rfl)) λcall a0 a1 a2 H n k=>by kernel_rfl
def AZE(lp:Aa)(G:AQ)(call:AP)(k:KV):An:=(.s .n (.s .n (.s .n (.j (λR=>fF lp G call k (rg R q0) (rg R q5) (rg R q6)) (.s .n (.b (.l _ (VQ lp G call k) (λR H n=>(rg R q0,rg R q5,rg R q6,rg R q15,rg R q16,rg R wU,H,n)) λih17=>.n))) .n))))
theorem AW5{lp:Aa}(hL:Ar lp)(G:AQ):BN G 67 (Bj (AQG lp G)):=
 .mk AW9 <| D6 hL (an:=AZE lp G) (λ_ _=>obs (by kernel_rfl)) λcall a0 a1 H n k=>by kernel_rfl
def AZM(lp:Aa)(G:AQ)(call:AP)(k:KV):An:=.n
theorem AU9{lp:Aa}(hL:Ar lp)(G:AQ):BN G 68 (Bj (ARg lp G)):=
 .mk AWw <| D6 hL (an:=AZM lp G) (λ_ _=>obs (by kernel_rfl)) λcall a0 a1 H n k=>by kernel_rfl
def AU5(lp:Aa)(G:AQ)(call:AP)(k:KV):An:=.n
theorem AXy{lp:Aa}(hL:Ar lp)(G:AQ):BN G 69 (Bj (APo lp G)):=
 .mk AUD <| D6 hL (an:=AU5 lp G) (λ_ _=>obs (by kernel_rfl)) λcall a0 a1 H n k=>by kernel_rfl
def ATL(lp:Aa)(G:AQ)(call:AP)(k:KV):An:=.n
theorem AWe{lp:Aa}(hL:Ar lp)(G:AQ):BN G 70 (Bj (ASZ lp G)):=
 .mk AVT <| D6 hL (an:=ATL lp G) (λ_ _=>obs (by kernel_rfl)) λcall a0 a1 H n k=>by kernel_rfl
def AVc(lp:Aa)(G:AQ)(call:AP)(k:KV):An:=(.s .n (.s .n (.j (λR=>SQ lp G call k (rg R q3) (rg R q4) (rg R q5)) .n (.j (λR=>ig lp G call k (rg R q3) (rg R q4) (rg R q5)) (.s .n (.b (.l _ (Ve lp G call k) (λR H n=>(rg R q3,rg R q4,rg R q5,rg R jI,rg R q22,rg R q23,H,n)) λih20=>.n))) .n))))
theorem AVb{lp:Aa}(hL:Ar lp)(G:AQ):BN G 71 (Bj (ASx lp G)):=
 .mk ATR <| D6 hL (an:=AVc lp G) (λ_ _=>obs (by kernel_rfl)) λcall a0 a1 H n k=>by kernel_rfl
def AYC(lp:Aa)(G:AQ)(call:AP)(k:KV):An:=(.s .n (.s .n (.s .n (.j (λR=>WV lp G call k (rg R q1)) (.s .n (.b (.l _ (VB lp G call k) (λR H n=>(rg R q1,rg R q3,rg R q50,rg R q51,rg R q52,H,n)) λih77=>.n))) (.s .n (.j (λR=>WG lp G call k) (.s .n (.b (.l _ (VK lp G call k) (λR H n=>(rg R q3,rg R q76,rg R q77,rg R q78,H,n)) λih43=>.n))) .n))))))
theorem AWE{lp:Aa}(hL:Ar lp)(G:AQ):BN G 72 (CQ (AS3 lp G)):=
 .mk AWc <| EO hL (an:=AYC lp G) (λ_ _=>obs (by kernel_rfl)) λcall a0 H n k=>by kernel_rfl
def ATC(lp:Aa)(G:AQ)(call:AP)(k:KV):An:=(.s .n (.j (λR=>iT lp G call k (rg R q1)) (.s .n (.b (.l _ (UA lp G call k) (λR H n=>(rg R q1,rg R q28,rg R q29,rg R q30,H,n)) λih97=>.n))) (.j (λR=>gW lp G call k (rg R q1)) (.s .n (.b (.l _ (Us lp G call k) (λR H n=>(rg R q1,rg R q38,rg R q39,rg R q40,H,n)) λih73=>.n))) (.j (λR=>iE lp G call k (rg R q1)) (.s .n (.b (.l _ (TM lp G call k) (λR H n=>(rg R q1,rg R q49,rg R q50,rg R q51,H,n)) λih60=>.n))) (.j (λR=>dS lp G call k (rg R q1)) (.s .n (.b (.l _ (UD lp G call k) (λR H n=>(rg R q1,rg R q60,rg R q61,rg R q62,H,n)) λih29=>.n))) (.j (λR=>gZ lp G call k) (.s .n (.b (.l _ (Vl lp G call k) (λR H n=>(rg R q92,rg R q93,rg R q94,H,n)) λih10=>.n))) .n))))))
theorem AYN{lp:Aa}(hL:Ar lp)(G:AQ):BN G 73 (CQ (AS1 lp G)):=
 .mk AYU <| EO hL (an:=ATC lp G) (λ_ _=>obs (by kernel_rfl)) λcall a0 H n k=>by kernel_rfl
def AYt(lp:Aa)(G:AQ)(call:AP)(k:KV):An:=.n
theorem AUS{lp:Aa}(hL:Ar lp)(G:AQ):BN G 74 (Bj (ARW lp G)):=
 .mk AYE <| D6 hL (an:=AYt lp G) (λ_ _=>obs (by kernel_rfl)) λcall a0 a1 H n k=>by kernel_rfl
def AUp(lp:Aa)(G:AQ)(call:AP)(k:KV):An:=.n
theorem AW6{lp:Aa}(hL:Ar lp)(G:AQ):BN G 75 (Bj (AS2 lp G)):=
 .mk ATY <| D6 hL (an:=AUp lp G) (λ_ _=>obs (by kernel_rfl)) λcall a0 a1 H n k=>by kernel_rfl
def AUQ(lp:Aa)(G:AQ)(call:AP)(k:KV):An:=.n
theorem AWp{lp:Aa}(hL:Ar lp)(G:AQ):BN G 76 (CQ (ARh lp G)):=
 .mk ATu <| EO hL (an:=AUQ lp G) (λ_ _=>obs (by kernel_rfl)) λcall a0 H n k=>by kernel_rfl
def AXl(lp:Aa)(G:AQ)(call:AP)(k:KV):An:=(.s .n (.s .n (.s .n (.s .n (.s .n (.s .n (.j (λR=>Wj lp G call k (rg R q0) (rg R q1) (rg R q5) (rg R q7) (rg R q9)) (.s .n (.b (.l _ (Tv lp G call k) (λR H n=>(rg R q0,rg R q1,rg R q5,rg R q7,rg R q9,rg R q63,rg R q64,rg R q65,H,n)) λih93=>.n))) (.j (λR=>WU lp G call k (rg R q0) (rg R q1) (rg R q9)) (.s .n (.b (.l _ (TD lp G call k) (λR H n=>(rg R q0,rg R q1,rg R q7,rg R q9,rg R oh,rg R ADZ,rg R AJz,H,n)) λih53=>.n))) (.j (λR=>NI lp G call k) .n .n)))))))))
theorem AX6{lp:Aa}(hL:Ar lp)(G:AQ):BN G 77 (ar3 (ASr lp G)):=
 .mk AU2 <| sf3 hL (an:=AXl lp G) (λ_ _=>obs (by kernel_rfl)) λcall a0 a1 a2 H n k=>by kernel_rfl
def AZO(lp:Aa)(G:AQ)(call:AP)(k:KV):An:=.n
theorem AZ5{lp:Aa}(hL:Ar lp)(G:AQ):BN G 78 (CQ (AQP lp G)):=
 .mk AUh <| EO hL (an:=AZO lp G) (λ_ _=>obs (by kernel_rfl)) λcall a0 H n k=>by kernel_rfl
def AXn(lp:Aa)(G:AQ)(call:AP)(k:KV):An:=(.s .n (.s .n (.s (.s .n (.b (.s .n (.c .n (.s .n (.c .n (.s .n (.c .n (.s .n (.c .n (.s .n (.c .n (.j (λR=>Fv lp G call k (rg R q0) (rg R q1) (rg R q5) (rg R q7) (rg R q8) (rg R Vx) (rg R q80)) .n (.c .n (.j (λR=>Le lp G call k (rg R q0) (rg R q1) (rg R q5) (rg R q7) (rg R q8) (rg R Vx) (rg R q98)) .n (.c .n (.s .n (.c .n (.s .n (.c .n (.j (λR=>Md lp G call k (rg R q0) (rg R q1) (rg R q5) (rg R q7) (rg R q8) (rg R Vx) (rg R AfF)) .n .n))))))))))))))))))))) .n)))
theorem AVg{lp:Aa}(hL:Ar lp)(G:AQ):BN G 79 (ar3 (AQz lp G)):=
 .mk AU7 <| sf3 hL (an:=AXn lp G) (λ_ _=>obs (by kernel_rfl)) λcall a0 a1 a2 H n k=>by kernel_rfl
def ATZ(lp:Aa)(G:AQ)(call:AP)(k:KV):An:=.n
theorem AXa{lp:Aa}(hL:Ar lp)(G:AQ):BN G 80 (ar3 (ARy lp G)):=
 .mk AYq <| sf3 hL (an:=ATZ lp G) (λ_ _=>obs (by kernel_rfl)) λcall a0 a1 a2 H n k=>by kernel_rfl
def ATo(lp:Aa)(G:AQ)(call:AP)(k:KV):An:=.n
theorem AYP{lp:Aa}(hL:Ar lp)(G:AQ):BN G 81 (CQ (ASR lp G)):=
 .mk AZC <| EO hL (an:=ATo lp G) (λ_ _=>obs (by kernel_rfl)) λcall a0 H n k=>by kernel_rfl
def ATl(lp:Aa)(G:AQ)(call:AP)(k:KV):An:=.n
theorem AXr{lp:Aa}(hL:Ar lp)(G:AQ):BN G 82 (CQ (ARQ lp G)):=
 .mk ATH <| EO hL (an:=ATl lp G) (λ_ _=>obs (by kernel_rfl)) λcall a0 H n k=>by kernel_rfl
def AXo(lp:Aa)(G:AQ)(call:AP)(k:KV):An:=(.s .n (.s .n (.b (.s .n (.c .n (.s .n (.c .n (.s .n (.c .n (.s .n (.c .n (.s .n (.c .n (.j (λR=>MR lp G call k (rg R q0) (rg R q1) (rg R q2) (rg R q3) (rg R q8) (rg R q9) (rg R q93)) .n .n))))))))))))))
theorem AXD{lp:Aa}(hL:Ar lp)(G:AQ):BN G 83 (P5 (AP8 lp G)):=
 .mk AYx <| sf4 hL (an:=AXo lp G) (λ_ _=>obs (by kernel_rfl)) λcall a0 a1 a2 a3 H n k=>by kernel_rfl
def AWf(lp:Aa)(G:AQ)(call:AP)(k:KV):An:=(.s .n (.s .n (.b (.s .n (.c .n (.s .n (.c .n (.j (λR=>MJ lp G call k (rg R q0) (rg R q1) (rg R q5) (rg R Vh) (rg R q52)) .n (.c .n (.j (λR=>Ls lp G call k (rg R q0) (rg R q1) (rg R q5) (rg R Vh) (rg R Afr)) .n (.c (.s .n (.s .n (.j (λR=>LW lp G call k (rg R q0) (rg R q1) (rg R q5) (rg R q9) (rg R q10)) .n (.s .n (.j (λR=>LM lp G call k (rg R q0) (rg R q9) (rg R q11)) .n .n))))) .n)))))))))))
theorem AWH{lp:Aa}(hL:Ar lp)(G:AQ):BN G 84 (ar3 (ARn lp G)):=
 .mk AYo <| sf3 hL (an:=AWf lp G) (λ_ _=>obs (by kernel_rfl)) λcall a0 a1 a2 H n k=>by kernel_rfl
def AaG(lp:Aa)(G:AQ)(call:AP)(k:KV):An:=.n
theorem AWs{lp:Aa}(hL:Ar lp)(G:AQ):BN G 85 (CQ (ARz lp G)):=
 .mk AVq <| EO hL (an:=AaG lp G) (λ_ _=>obs (by kernel_rfl)) λcall a0 H n k=>by kernel_rfl
def AWv(lp:Aa)(G:AQ)(call:AP)(k:KV):An:=(.s .n (.b (.l _ (YM lp G call k) (λR H n=>(rg R q0,rg R q4,rg R q5,H,n)) λih1=>(.s .n (.s .n (.s (.b (.s .n (.j (λR=>MC lp G call k ih1 (rg R q0) (rg R q4) (rg R q5)) .n .n))) .n))))))
theorem AVn{lp:Aa}(hL:Ar lp)(G:AQ):BN G 86 (Bj (ASH lp G)):=
 .mk AXR <| D6 hL (an:=AWv lp G) (λ_ _=>obs (by kernel_rfl)) λcall a0 a1 H n k=>by kernel_rfl
def AYD(lp:Aa)(G:AQ)(call:AP)(k:KV):An:=.n
theorem ATi{lp:Aa}(hL:Ar lp)(G:AQ):BN G 87 (Bj (AR3 lp G)):=
 .mk ATa <| D6 hL (an:=AYD lp G) (λ_ _=>obs (by kernel_rfl)) λcall a0 a1 H n k=>by kernel_rfl
def ATI(lp:Aa)(G:AQ)(call:AP)(k:KV):An:=.n
theorem AY1{lp:Aa}(hL:Ar lp)(G:AQ):BN G 88 (Bj (AQ7 lp G)):=
 .mk AWq <| D6 hL (an:=ATI lp G) (λ_ _=>obs (by kernel_rfl)) λcall a0 a1 H n k=>by kernel_rfl
def AZ4(lp:Aa)(G:AQ)(call:AP)(k:KV):An:=.n
theorem ATg{lp:Aa}(hL:Ar lp)(G:AQ):BN G 89 (CQ (ARx lp G)):=
 .mk AZn <| EO hL (an:=AZ4 lp G) (λ_ _=>obs (by kernel_rfl)) λcall a0 H n k=>by kernel_rfl
def AT7(lp:Aa)(G:AQ)(call:AP)(k:KV):An:=(.s .n (.s .n (.j (λR=>gB lp G call k (rg R q0) (rg R q5)) (.b (.l _ (U7 lp G call k) (λR H n=>(rg R q0,rg R q1,rg R q5,H,n)) λih13=>.n)) .n)))
theorem AUc{lp:Aa}(hL:Ar lp)(G:AQ):BN G 90 (Bj (ARI lp G)):=
 .mk AW7 <| D6 hL (an:=AT7 lp G) (λ_ _=>obs (by kernel_rfl)) λcall a0 a1 H n k=>by kernel_rfl
def AVR(lp:Aa)(G:AQ)(call:AP)(k:KV):An:=.n
theorem AUz{lp:Aa}(hL:Ar lp)(G:AQ):BN G 91 (CQ (AR6 lp G)):=
 .mk AZS <| EO hL (an:=AVR lp G) (λ_ _=>obs (by kernel_rfl)) λcall a0 H n k=>by kernel_rfl
def AUO(lp:Aa)(G:AQ)(call:AP)(k:KV):An:=.n
theorem AVl{lp:Aa}(hL:Ar lp)(G:AQ):BN G 92 (CQ (AQK lp G)):=
 .mk AV0 <| EO hL (an:=AUO lp G) (λ_ _=>obs (by kernel_rfl)) λcall a0 H n k=>by kernel_rfl
def AYS(lp:Aa)(G:AQ)(call:AP)(k:KV):An:=(.s .n (.s (.s .n (.b (.j (λR=>CV lp G call k (rg R q4)) .n .n))) .n))
theorem AVp{lp:Aa}(hL:Ar lp)(G:AQ):BN G 93 (CQ (APu lp G)):=
 .mk AZf <| EO hL (an:=AYS lp G) (λ_ _=>obs (by kernel_rfl)) λcall a0 H n k=>by kernel_rfl
def AZQ(lp:Aa)(G:AQ)(call:AP)(k:KV):An:=.n
theorem AXP{lp:Aa}(hL:Ar lp)(G:AQ):BN G 94 (CQ (AQ0 lp G)):=
 .mk AaI <| EO hL (an:=AZQ lp G) (λ_ _=>obs (by kernel_rfl)) λcall a0 H n k=>by kernel_rfl
def AUG(lp:Aa)(G:AQ)(call:AP)(k:KV):An:=(.s .n (.s .n (.j (λR=>iU lp G call k (rg R q4)) (.s .n (.b (.l _ (XU lp G call k) (λR H n=>(rg R q4,rg R q8,rg R q9,rg R q10,H,n)) λih4=>.n))) .n)))
theorem AXS{lp:Aa}(hL:Ar lp)(G:AQ):BN G 95 (CQ (ASm lp G)):=
 .mk AYT <| EO hL (an:=AUG lp G) (λ_ _=>obs (by kernel_rfl)) λcall a0 H n k=>by kernel_rfl
def AZp(lp:Aa)(G:AQ)(call:AP)(k:KV):An:=(.s .n (.s .n (.j (λR=>VP lp G call k (rg R q2) (rg R q3)) .n .n)))
theorem AWW{lp:Aa}(hL:Ar lp)(G:AQ):BN G 96 (CQ (AQr lp G)):=
 .mk AX5 <| EO hL (an:=AZp lp G) (λ_ _=>obs (by kernel_rfl)) λcall a0 H n k=>by kernel_rfl
def AYX(lp:Aa)(G:AQ)(call:AP)(k:KV):An:=.n
theorem AaD{lp:Aa}(hL:Ar lp)(G:AQ):BN G 97 (CQ (ASE lp G)):=
 .mk AWO <| EO hL (an:=AYX lp G) (λ_ _=>obs (by kernel_rfl)) λcall a0 H n k=>by kernel_rfl
def AUa(lp:Aa)(G:AQ)(call:AP)(k:KV):An:=(.s .n (.s .n (.s .n (.s .n (.j (λR=>dw lp G call k (rg R q3) (rg R q22)) (.b (.l _ (Wl lp G call k) (λR H n=>(rg R q0,rg R q3,rg R q22,H,n)) λih6=>.n)) .n)))))
theorem AYz{lp:Aa}(hL:Ar lp)(G:AQ):BN G 98 (CQ (APq lp G)):=
 .mk AXv <| EO hL (an:=AUa lp G) (λ_ _=>obs (by kernel_rfl)) λcall a0 H n k=>by kernel_rfl
def ATp(lp:Aa)(G:AQ)(call:AP)(k:KV):An:=.n
theorem AZl{lp:Aa}(hL:Ar lp)(G:AQ):BN G 99 (Bj (ASo lp G)):=
 .mk AZP <| D6 hL (an:=ATp lp G) (λ_ _=>obs (by kernel_rfl)) λcall a0 a1 H n k=>by kernel_rfl
def AHi(lp:Aa)(G:AQ)(call:AP)(k:KV):An:=.n
theorem ALt{lp:Aa}(hL:Ar lp)(G:AQ):BN G 100 (Bj (zI lp G)):=
 .mk ANR <| D6 hL (an:=AHi lp G) (λ_ _=>obs (by kernel_rfl)) λcall a0 a1 H n k=>by kernel_rfl
def AJb(lp:Aa)(G:AQ)(call:AP)(k:KV):An:=.n
theorem ANT{lp:Aa}(hL:Ar lp)(G:AQ):BN G 101 (Bj (AAK lp G)):=
 .mk AHz <| D6 hL (an:=AJb lp G) (λ_ _=>obs (by kernel_rfl)) λcall a0 a1 H n k=>by kernel_rfl
def AIz(lp:Aa)(G:AQ)(call:AP)(k:KV):An:=.n
theorem AOx{lp:Aa}(hL:Ar lp)(G:AQ):BN G 102 (Bj (ADh lp G)):=
 .mk AJy <| D6 hL (an:=AIz lp G) (λ_ _=>obs (by kernel_rfl)) λcall a0 a1 H n k=>by kernel_rfl
def AJS(lp:Aa)(G:AQ)(call:AP)(k:KV):An:=(.s .n (.s .n (.j (λR=>Xg lp G call k) (.s .n (.b (.l _ (UL lp G call k) (λR H n=>(rg R q0,rg R q1,rg R q12,rg R q13,H,n)) λih6=>.n))) .n)))
theorem AIO{lp:Aa}(hL:Ar lp)(G:AQ):BN G 103 (Bj (ABr lp G)):=
 .mk AOc <| D6 hL (an:=AJS lp G) (λ_ _=>obs (by kernel_rfl)) λcall a0 a1 H n k=>by kernel_rfl
def AN9(lp:Aa)(G:AQ)(call:AP)(k:KV):An:=(.s .n (.j (λR=>Wx lp G call k) (.s .n (.b (.l _ (TA lp G call k) (λR H n=>(rg R q0,rg R q1,rg R q7,rg R q8,H,n)) λih3=>.n))) .n))
theorem ANo{lp:Aa}(hL:Ar lp)(G:AQ):BN G 104 (Bj (AFx lp G)):=
 .mk AOh <| D6 hL (an:=AN9 lp G) (λ_ _=>obs (by kernel_rfl)) λcall a0 a1 H n k=>by kernel_rfl
def AMg(lp:Aa)(G:AQ)(call:AP)(k:KV):An:=.n
theorem AJX{lp:Aa}(hL:Ar lp)(G:AQ):BN G 105 (CQ (AAl lp G)):=
 .mk AMF <| EO hL (an:=AMg lp G) (λ_ _=>obs (by kernel_rfl)) λcall a0 H n k=>by kernel_rfl
def AMn(lp:Aa)(G:AQ)(call:AP)(k:KV):An:=.n
theorem ANx{lp:Aa}(hL:Ar lp)(G:AQ):BN G 106 (CQ (AEE lp G)):=
 .mk AGt <| EO hL (an:=AMn lp G) (λ_ _=>obs (by kernel_rfl)) λcall a0 H n k=>by kernel_rfl
def AHf(lp:Aa)(G:AQ)(call:AP)(k:KV):An:=(.s .n (.j (λR=>Xn lp G call k (rg R q4)) (.s .n (.b (.l _ (Uj lp G call k) (λR H n=>(rg R q1,rg R q4,rg R q9,rg R q10,rg R q11,H,n)) λih9=>.n))) .n))
theorem ANO{lp:Aa}(hL:Ar lp)(G:AQ):BN G 107 (Bj (ABR lp G)):=
 .mk ALF <| D6 hL (an:=AHf lp G) (λ_ _=>obs (by kernel_rfl)) λcall a0 a1 H n k=>by kernel_rfl
def AKd(lp:Aa)(G:AQ)(call:AP)(k:KV):An:=(.s .n (.j (λR=>Xk lp G call k (rg R q4)) (.s .n (.b (.l _ (UC lp G call k) (λR H n=>(rg R q1,rg R q4,rg R q11,rg R q12,rg R q13,H,n)) λih9=>.n))) .n))
theorem ANB{lp:Aa}(hL:Ar lp)(G:AQ):BN G 108 (Bj (AFJ lp G)):=
 .mk APf <| D6 hL (an:=AKd lp G) (λ_ _=>obs (by kernel_rfl)) λcall a0 a1 H n k=>by kernel_rfl
def AKP(lp:Aa)(G:AQ)(call:AP)(k:KV):An:=(.s .n (.j (λR=>NG lp G call k (rg R q0)) .n .n))
theorem AJo{lp:Aa}(hL:Ar lp)(G:AQ):BN G 109 (P5 (AGY lp G)):=
 .mk AJV <| sf4 hL (an:=AKP lp G) (λ_ _=>obs (by kernel_rfl)) λcall a0 a1 a2 a3 H n k=>by kernel_rfl
def AIJ(lp:Aa)(G:AQ)(call:AP)(k:KV):An:=(.s .n (.s .n (.s .n (.s .n (.j (λR=>VY lp G call k (rg R q0) (rg R q3) (rg R q4)) (.s .n (.b (.l _ (KR lp G call k) (λR H n=>(rg R q0,rg R q3,rg R q4,rg R q39,rg R q40,rg R q41,H,n)) λih130=>.n))) (.s .n (.s .n (.j (λR=>EI lp G call k (rg R q3) (rg R q4)) (.s .n (.b (.s .n (.c .n (.s .n (.c .n (.j (λR=>JB lp G call k (rg R q0) (rg R q3) (rg R q4) (rg R q7) (rg R q66) (rg R AZi)) .n .n))))))) .n))))))))
theorem AMR{lp:Aa}(hL:Ar lp)(G:AQ):BN G 110 (Bj (AEo lp G)):=
 .mk AHY <| D6 hL (an:=AIJ lp G) (λ_ _=>obs (by kernel_rfl)) λcall a0 a1 H n k=>by kernel_rfl
def AKc(lp:Aa)(G:AQ)(call:AP)(k:KV):An:=(.s .n (.s .n (.j (λR=>Xa lp G call k (rg R q0) (rg R q1) (rg R q2) (rg R q6) (rg R q7)) (.b (.l _ (OE lp G call k) (λR H n=>(rg R q0,rg R q1,rg R q2,rg R q6,rg R q7,rg R q8,H,n)) λih18=>.n)) (.s .n (.b (.l _ (SH lp G call k) (λR H n=>(rg R q0,rg R q1,rg R q2,rg R q6,H,n)) λih3=>(.s .n (.b (.s .n (.j (λR=>XB lp G call k ih3 (rg R q0) (rg R q1) (rg R q2) (rg R q6) (rg R q7)) (.b (.l _ (OA lp G call k ih3) (λR H n=>(rg R q0,rg R q1,rg R q2,rg R q6,rg R q7,rg R q8,H,n)) λih12=>.n)) (.j (λR=>MQ lp G call k ih3 (rg R q0) (rg R q1) (rg R q2) (rg R q6)) .n .n)))))))))))
theorem AMH{lp:Aa}(hL:Ar lp)(G:AQ):BN G 111 (ar3 (ADk lp G)):=
 .mk AON <| sf3 hL (an:=AKc lp G) (λ_ _=>obs (by kernel_rfl)) λcall a0 a1 a2 H n k=>by kernel_rfl
def AL1(lp:Aa)(G:AQ)(call:AP)(k:KV):An:=.n
theorem ANd{lp:Aa}(hL:Ar lp)(G:AQ):BN G 112 (Bj (ACt lp G)):=
 .mk ALx <| D6 hL (an:=AL1 lp G) (λ_ _=>obs (by kernel_rfl)) λcall a0 a1 H n k=>by kernel_rfl
def AIX(lp:Aa)(G:AQ)(call:AP)(k:KV):An:=.n
theorem ANt{lp:Aa}(hL:Ar lp)(G:AQ):BN G 113 (Bj (zL lp G)):=
 .mk ALX <| D6 hL (an:=AIX lp G) (λ_ _=>obs (by kernel_rfl)) λcall a0 a1 H n k=>by kernel_rfl
def AHo(lp:Aa)(G:AQ)(call:AP)(k:KV):An:=(.s .n (.j (λR=>YI lp G call k (rg R q0) (rg R q4)) (.s .n (.b (.l _ (NW lp G call k) (λR H n=>(rg R q0,rg R q4,rg R q12,rg R q13,rg R Vh,H,n)) λih21=>.n))) .n))
theorem AIn{lp:Aa}(hL:Ar lp)(G:AQ):BN G 114 (Bj (ADV lp G)):=
 .mk AOm <| D6 hL (an:=AHo lp G) (λ_ _=>obs (by kernel_rfl)) λcall a0 a1 H n k=>by kernel_rfl
def APG(lp:Aa)(G:AQ)(call:AP)(k:KV):An:=(.j (λR=>Ir lp G call k (rg R q0)) .n .n)
theorem ALm{lp:Aa}(hL:Ar lp)(G:AQ):BN G 115 (CQ (AFK lp G)):=
 .mk AIs <| EO hL (an:=APG lp G) (λ_ _=>obs (by kernel_rfl)) λcall a0 H n k=>by kernel_rfl
def AJD(lp:Aa)(G:AQ)(call:AP)(k:KV):An:=.n
theorem AI0{lp:Aa}(hL:Ar lp)(G:AQ):BN G 116 (CQ (ABq lp G)):=
 .mk AK0 <| EO hL (an:=AJD lp G) (λ_ _=>obs (by kernel_rfl)) λcall a0 H n k=>by kernel_rfl
def ALj(lp:Aa)(G:AQ)(call:AP)(k:KV):An:=.n
theorem AOf{lp:Aa}(hL:Ar lp)(G:AQ):BN G 117 (CQ (AAk lp G)):=
 .mk AJM <| EO hL (an:=ALj lp G) (λ_ _=>obs (by kernel_rfl)) λcall a0 H n k=>by kernel_rfl
def AK9(lp:Aa)(G:AQ)(call:AP)(k:KV):An:=.n
theorem ALB{lp:Aa}(hL:Ar lp)(G:AQ):BN G 118 (CQ (ACE lp G)):=
 .mk AMK <| EO hL (an:=AK9 lp G) (λ_ _=>obs (by kernel_rfl)) λcall a0 H n k=>by kernel_rfl
def AG1(lp:Aa)(G:AQ)(call:AP)(k:KV):An:=.n
theorem AKF{lp:Aa}(hL:Ar lp)(G:AQ):BN G 119 (CQ (zV lp G)):=
 .mk AGy <| EO hL (an:=AG1 lp G) (λ_ _=>obs (by kernel_rfl)) λcall a0 H n k=>by kernel_rfl
def AKZ(lp:Aa)(G:AQ)(call:AP)(k:KV):An:=.n
theorem AHr{lp:Aa}(hL:Ar lp)(G:AQ):BN G 120 (CQ (AGb lp G)):=
 .mk AIW <| EO hL (an:=AKZ lp G) (λ_ _=>obs (by kernel_rfl)) λcall a0 H n k=>by kernel_rfl
def AHw(lp:Aa)(G:AQ)(call:AP)(k:KV):An:=.n
theorem AHU{lp:Aa}(hL:Ar lp)(G:AQ):BN G 121 (ar3 (ABZ lp G)):=
 .mk AMJ <| sf3 hL (an:=AHw lp G) (λ_ _=>obs (by kernel_rfl)) λcall a0 a1 a2 H n k=>by kernel_rfl
def AKo(lp:Aa)(G:AQ)(call:AP)(k:KV):An:=(.s .n (.j (λR=>LY lp G call k (rg R q6)) .n .n))
theorem ALO{lp:Aa}(hL:Ar lp)(G:AQ):BN G 122 (ar3 (ADW lp G)):=
 .mk AJc <| sf3 hL (an:=AKo lp G) (λ_ _=>obs (by kernel_rfl)) λcall a0 a1 a2 H n k=>by kernel_rfl
def ALf(lp:Aa)(G:AQ)(call:AP)(k:KV):An:=.n
theorem AIv{lp:Aa}(hL:Ar lp)(G:AQ):BN G 123 (CQ (ADz lp G)):=
 .mk ANH <| EO hL (an:=ALf lp G) (λ_ _=>obs (by kernel_rfl)) λcall a0 H n k=>by kernel_rfl
def AKp(lp:Aa)(G:AQ)(call:AP)(k:KV):An:=.n
theorem AJE{lp:Aa}(hL:Ar lp)(G:AQ):BN G 124 (yh (ACD lp G)):=
 .mk AJu <| sf0 hL (an:=AKp lp G) (λ_ _=>obs (by kernel_rfl)) λcall H n k=>by kernel_rfl
def AO0(lp:Aa)(G:AQ)(call:AP)(k:KV):An:=.n
theorem ALK{lp:Aa}(hL:Ar lp)(G:AQ):BN G 125 (ar3 (AGF lp G)):=
 .mk AJe <| sf3 hL (an:=AO0 lp G) (λ_ _=>obs (by kernel_rfl)) λcall a0 a1 a2 H n k=>by kernel_rfl
def APT(lp:Aa)(G:AQ)(call:AP)(k:KV):An:=.n
theorem AMz{lp:Aa}(hL:Ar lp)(G:AQ):BN G 126 (yh (ABc lp G)):=
 .mk AG5 <| sf0 hL (an:=APT lp G) (λ_ _=>obs (by kernel_rfl)) λcall H n k=>by kernel_rfl
def APb(lp:Aa)(G:AQ)(call:AP)(k:KV):An:=.n
theorem AJI{lp:Aa}(hL:Ar lp)(G:AQ):BN G 127 (CQ (AB9 lp G)):=
 .mk AHL <| EO hL (an:=APb lp G) (λ_ _=>obs (by kernel_rfl)) λcall a0 H n k=>by kernel_rfl
def AIp(lp:Aa)(G:AQ)(call:AP)(k:KV):An:=(.s .n (.j (λR=>WO lp G call k) (.s .n (.b (.l _ (SV lp G call k) (λR H n=>(rg R q0,rg R q1,rg R q2,rg R q7,H,n)) λih4=>.n))) .n))
theorem AIY{lp:Aa}(hL:Ar lp)(G:AQ):BN G 128 (ar3 (AEH lp G)):=
 .mk AJj <| sf3 hL (an:=AIp lp G) (λ_ _=>obs (by kernel_rfl)) λcall a0 a1 a2 H n k=>by kernel_rfl
def AJp(lp:Aa)(G:AQ)(call:AP)(k:KV):An:=.n
theorem AKR{lp:Aa}(hL:Ar lp)(G:AQ):BN G 129 (CQ (ABj lp G)):=
 .mk AHJ <| EO hL (an:=AJp lp G) (λ_ _=>obs (by kernel_rfl)) λcall a0 H n k=>by kernel_rfl
def AOD(lp:Aa)(G:AQ)(call:AP)(k:KV):An:=(.s .n (.s (.s .n (.b (.s .n (.c .n (.s .n (.c .n (.j (λR=>Jk lp G call k (rg R q0) (rg R q1) (rg R q5) (rg R Vh) (rg R q66)) .n (.c (.s .n (.s .n (.j (λR=>JK lp G call k (rg R q0) (rg R q1) (rg R q7) (rg R q8) (rg R q9)) .n .n))) (.s .n (.c .n (.s .n (.c .n (.j (λR=>IW lp G call k (rg R q0) (rg R q1) (rg R q5) (rg R AgF)) .n .n))))))))))))) .n))
theorem ALA{lp:Aa}(hL:Ar lp)(G:AQ):BN G 130 (ar3 (AEq lp G)):=
 .mk AN2 <| sf3 hL (an:=AOD lp G) (λ_ _=>obs (by kernel_rfl)) λcall a0 a1 a2 H n k=>by kernel_rfl
def ALN(lp:Aa)(G:AQ)(call:AP)(k:KV):An:=.n
theorem AHd{lp:Aa}(hL:Ar lp)(G:AQ):BN G 131 (P5 (AFW lp G)):=
 .mk AOa <| sf4 hL (an:=ALN lp G) (λ_ _=>obs (by kernel_rfl)) λcall a0 a1 a2 a3 H n k=>by kernel_rfl
def APR(lp:Aa)(G:AQ)(call:AP)(k:KV):An:=(.s .n (.s .n (.s .n (.j (λR=>XZ lp G call k (rg R q5)) (.s .n (.b (.l _ (UN lp G call k) (λR H n=>(rg R q0,rg R q5,rg R jI,rg R q22,rg R q23,H,n)) λih9=>.n))) .n))))
theorem APP{lp:Aa}(hL:Ar lp)(G:AQ):BN G 132 (Bj (ADp lp G)):=
 .mk AHK <| D6 hL (an:=APR lp G) (λ_ _=>obs (by kernel_rfl)) λcall a0 a1 H n k=>by kernel_rfl
def AHs(lp:Aa)(G:AQ)(call:AP)(k:KV):An:=.n
theorem AIU{lp:Aa}(hL:Ar lp)(G:AQ):BN G 133 (ar3 (ACg lp G)):=
 .mk AMQ <| sf3 hL (an:=AHs lp G) (λ_ _=>obs (by kernel_rfl)) λcall a0 a1 a2 H n k=>by kernel_rfl
def ALw(lp:Aa)(G:AQ)(call:AP)(k:KV):An:=(.s .n (.s .n (.s .n (.s .n (.s .n (.s .n (.s .n (.j (λR=>Jp lp G call k (rg R q0) (rg R q1) (rg R q5) (rg R q6) (rg R q7) (rg R q8) (rg R q9)) .n .n))))))))
theorem AMy{lp:Aa}(hL:Ar lp)(G:AQ):BN G 134 (ar3 (AFB lp G)):=
 .mk AOq <| sf3 hL (an:=ALw lp G) (λ_ _=>obs (by kernel_rfl)) λcall a0 a1 a2 H n k=>by kernel_rfl
def APQ(lp:Aa)(G:AQ)(call:AP)(k:KV):An:=.n
theorem AN3{lp:Aa}(hL:Ar lp)(G:AQ):BN G 135 (Bj (AD1 lp G)):=
 .mk AKD <| D6 hL (an:=APQ lp G) (λ_ _=>obs (by kernel_rfl)) λcall a0 a1 H n k=>by kernel_rfl
def AHD(lp:Aa)(G:AQ)(call:AP)(k:KV):An:=.n
theorem AKC{lp:Aa}(hL:Ar lp)(G:AQ):BN G 136 (Bj (AD5 lp G)):=
 .mk AHE <| D6 hL (an:=AHD lp G) (λ_ _=>obs (by kernel_rfl)) λcall a0 a1 H n k=>by kernel_rfl
def AOZ(lp:Aa)(G:AQ)(call:AP)(k:KV):An:=(.s .n (.j (λR=>Lr lp G call k (rg R q1)) .n .n))
theorem AMc{lp:Aa}(hL:Ar lp)(G:AQ):BN G 137 (CQ (AF4 lp G)):=
 .mk AJm <| EO hL (an:=AOZ lp G) (λ_ _=>obs (by kernel_rfl)) λcall a0 H n k=>by kernel_rfl
def AMh(lp:Aa)(G:AQ)(call:AP)(k:KV):An:=(.s .n (.s .n (.j (λR=>GN lp G call k (rg R q0) (rg R q2) (rg R q3)) .n .n)))
theorem ANQ{lp:Aa}(hL:Ar lp)(G:AQ):BN G 138 (CQ (ADR lp G)):=
 .mk AJQ <| EO hL (an:=AMh lp G) (λ_ _=>obs (by kernel_rfl)) λcall a0 H n k=>by kernel_rfl
def AKO(lp:Aa)(G:AQ)(call:AP)(k:KV):An:=(.s .n (.s .n (.j (λR=>Xl lp G call k (rg R q0) (rg R q1) (rg R q2) (rg R q6) (rg R q7)) (.b (.l _ (N8 lp G call k) (λR H n=>(rg R q0,rg R q1,rg R q2,rg R q6,rg R q7,rg R q8,H,n)) λih18=>.n)) (.s .n (.b (.l _ (UW lp G call k) (λR H n=>(rg R q0,rg R q1,rg R q2,rg R q6,H,n)) λih3=>(.s .n (.b (.s .n (.j (λR=>XD lp G call k ih3 (rg R q0) (rg R q1) (rg R q2) (rg R q6) (rg R q7)) (.b (.l _ (NM lp G call k ih3) (λR H n=>(rg R q0,rg R q1,rg R q2,rg R q6,rg R q7,rg R q8,H,n)) λih12=>.n)) (.j (λR=>MZ lp G call k ih3 (rg R q0) (rg R q1) (rg R q2) (rg R q6)) .n .n)))))))))))
theorem AKL{lp:Aa}(hL:Ar lp)(G:AQ):BN G 139 (ar3 (AGJ lp G)):=
 .mk AIH <| sf3 hL (an:=AKO lp G) (λ_ _=>obs (by kernel_rfl)) λcall a0 a1 a2 H n k=>by kernel_rfl
def AI1(lp:Aa)(G:AQ)(call:AP)(k:KV):An:=(.s .n (.s .n (.j (λR=>XR lp G call k (rg R q0) (rg R q1) (rg R q2) (rg R q6) (rg R q7)) (.b (.l _ (OD lp G call k) (λR H n=>(rg R q0,rg R q1,rg R q2,rg R q6,rg R q7,rg R q8,H,n)) λih18=>.n)) (.s .n (.b (.l _ (U2 lp G call k) (λR H n=>(rg R q0,rg R q1,rg R q2,rg R q6,H,n)) λih3=>(.s .n (.b (.s .n (.j (λR=>Xd lp G call k ih3 (rg R q0) (rg R q1) (rg R q2) (rg R q6) (rg R q7)) (.b (.l _ (Nq lp G call k ih3) (λR H n=>(rg R q0,rg R q1,rg R q2,rg R q6,rg R q7,rg R q8,H,n)) λih12=>.n)) (.j (λR=>MX lp G call k ih3 (rg R q0) (rg R q1) (rg R q2) (rg R q6)) .n .n)))))))))))
theorem APF{lp:Aa}(hL:Ar lp)(G:AQ):BN G 140 (ar3 (ABN lp G)):=
 .mk APB <| sf3 hL (an:=AI1 lp G) (λ_ _=>obs (by kernel_rfl)) λcall a0 a1 a2 H n k=>by kernel_rfl
def AIQ(lp:Aa)(G:AQ)(call:AP)(k:KV):An:=.n
theorem AIm{lp:Aa}(hL:Ar lp)(G:AQ):BN G 141 (ar3 (AD0 lp G)):=
 .mk ANM <| sf3 hL (an:=AIQ lp G) (λ_ _=>obs (by kernel_rfl)) λcall a0 a1 a2 H n k=>by kernel_rfl
def AMq(lp:Aa)(G:AQ)(call:AP)(k:KV):An:=.n
theorem AMr{lp:Aa}(hL:Ar lp)(G:AQ):BN G 142 (CQ (ABx lp G)):=
 .mk AN6 <| EO hL (an:=AMq lp G) (λ_ _=>obs (by kernel_rfl)) λcall a0 H n k=>by kernel_rfl
def ALd(lp:Aa)(G:AQ)(call:AP)(k:KV):An:=(.s .n (.s .n (.j (λR=>Dj lp G call k (rg R q3) (rg R q4)) (.s .n (.b (.s .n (.c .n (.j (λR=>JF lp G call k (rg R q0) (rg R q3) (rg R q4) (rg R q12) (rg R fZ)) .n (.c .n (.s .n (.c .n (.s .n (.c .n (.s .n (.c .n (.j (λR=>Hq lp G call k (rg R q0) (rg R q3) (rg R q4) (rg R q12) (rg R q65)) .n (.c .n (.s .n (.c .n (.s .n (.c (.j (λR=>JJ lp G call k (rg R q3) (rg R q4)) .n .n) (.s .n (.c (.j (λR=>JI lp G call k (rg R q3) (rg R q4)) .n .n) .n)))))))))))))))))))) .n)))
theorem AOu{lp:Aa}(hL:Ar lp)(G:AQ):BN G 143 (Bj (AF7 lp G)):=
 .mk AKr <| D6 hL (an:=ALd lp G) (λ_ _=>obs (by kernel_rfl)) λcall a0 a1 H n k=>by kernel_rfl
def ANr(lp:Aa)(G:AQ)(call:AP)(k:KV):An:=.n
theorem ALQ{lp:Aa}(hL:Ar lp)(G:AQ):BN G 144 (ar3 (AFH lp G)):=
 .mk ANw <| sf3 hL (an:=ANr lp G) (λ_ _=>obs (by kernel_rfl)) λcall a0 a1 a2 H n k=>by kernel_rfl
def AKl(lp:Aa)(G:AQ)(call:AP)(k:KV):An:=(.s .n (.j (λR=>XM lp G call k) (.s .n (.b (.l _ (TY lp G call k) (λR H n=>(rg R q0,rg R q5,rg R q9,rg R q10,rg R q11,H,n)) λih4=>.n))) .n))
theorem AM1{lp:Aa}(hL:Ar lp)(G:AQ):BN G 145 (ar3 (ABP lp G)):=
 .mk AOK <| sf3 hL (an:=AKl lp G) (λ_ _=>obs (by kernel_rfl)) λcall a0 a1 a2 H n k=>by kernel_rfl
def AMV(lp:Aa)(G:AQ)(call:AP)(k:KV):An:=(.s .n (.b (.l _ (Ud lp G call k) (λR H n=>(rg R q0,rg R q1,rg R q2,rg R q3,rg R q8,H,n)) λih2=>(.s .n (.j (λR=>XG lp G call k ih2 (rg R q0) (rg R q1) (rg R q2) (rg R q3) (rg R q8)) (.b (.s .n (.b (.l _ (SG lp G call k ih2) (λR H n=>(rg R q0,rg R q1,rg R q2,rg R q3,rg R q8,rg R q9,H,n)) λih6=>.n)))) .n)))))
theorem AL0{lp:Aa}(hL:Ar lp)(G:AQ):BN G 146 (P5 (AAo lp G)):=
 .mk AN7 <| sf4 hL (an:=AMV lp G) (λ_ _=>obs (by kernel_rfl)) λcall a0 a1 a2 a3 H n k=>by kernel_rfl
def AKX(lp:Aa)(G:AQ)(call:AP)(k:KV):An:=(.j (λR=>WJ lp G call k (rg R q0) (rg R q1) (rg R q2) (rg R q3) (rg R q4)) (.s .n (.c (.s .n (.s .n (.j (λR=>VE lp G call k (rg R q0) (rg R q1) (rg R q10)) (.b (.l _ (OM lp G call k) (λR H n=>(rg R q0,rg R q1,rg R q4,rg R q10,rg R q11,H,n)) λih96=>.n)) (.s (.s .n (.b (.l _ (N7 lp G call k) (λR H n=>(rg R q0,rg R q10,rg R q13,H,n)) λih82=>.n))) .n)))) .n)) (.j (λR=>WQ lp G call k (rg R q0) (rg R q1) (rg R q2) (rg R q3) (rg R q4)) (.s .n (.c (.s .n (.s .n (.j (λR=>Sv lp G call k (rg R q0) (rg R q2) (rg R Vh)) (.b (.l _ (NV lp G call k) (λR H n=>(rg R q0,rg R q2,rg R q4,rg R Vh,rg R q15,H,n)) λih65=>.n)) (.s (.s .n (.b (.l _ (NU lp G call k) (λR H n=>(rg R q0,rg R Vh,rg R wU,H,n)) λih52=>.n))) .n)))) .n)) (.s .n (.s .n (.s .n (.j (λR=>MS lp G call k (rg R q0) (rg R q1) (rg R q2) (rg R q3) (rg R q4) (rg R VN) (rg R fZ) (rg R Vx) (rg R jI)) .n (.s .n (.j (λR=>Rx lp G call k (rg R q0) (rg R q1) (rg R q2) (rg R q3) (rg R q4) (rg R VN) (rg R fZ) (rg R Vx)) (.b (.l _ (NZ lp G call k) (λR H n=>(rg R q0,rg R q1,rg R q2,rg R q3,rg R q4,rg R VN,rg R fZ,rg R Vx,rg R jI,rg R q22,H,n)) λih32=>.n)) (.s .n (.j (λR=>JE lp G call k (rg R q0) (rg R q1) (rg R q3) (rg R q4) (rg R VN) (rg R Vx) (rg R q24)) .n (.j (λR=>Jo lp G call k (rg R q0) (rg R q3) (rg R q4) (rg R VN) (rg R q24)) .n .n)))))))))))
theorem AJB{lp:Aa}(hL:Ar lp)(G:AQ):BN G 147 (RU (AFO lp G)):=
 .mk AK6 <| sf5 hL (an:=AKX lp G) (λ_ _=>obs (by kernel_rfl)) λcall a0 a1 a2 a3 a4 H n k=>by kernel_rfl
def AJk(lp:Aa)(G:AQ)(call:AP)(k:KV):An:=.n
theorem AIL{lp:Aa}(hL:Ar lp)(G:AQ):BN G 149 (Bj (ACC lp G)):=
 .mk AJN <| D6 hL (an:=AJk lp G) (λ_ _=>obs (by kernel_rfl)) λcall a0 a1 H n k=>by kernel_rfl
def APL(lp:Aa)(G:AQ)(call:AP)(k:KV):An:=.n
theorem AO5{lp:Aa}(hL:Ar lp)(G:AQ):BN G 150 (P5 (AAQ lp G)):=
 .mk AMG <| sf4 hL (an:=APL lp G) (λ_ _=>obs (by kernel_rfl)) λcall a0 a1 a2 a3 H n k=>by kernel_rfl
def AKH(lp:Aa)(G:AQ)(call:AP)(k:KV):An:=(.s .n (.s .n (.j (λR=>ND lp G call k (rg R q7)) .n .n)))
theorem AN4{lp:Aa}(hL:Ar lp)(G:AQ):BN G 151 (ar3 (ACx lp G)):=
 .mk AMM <| sf3 hL (an:=AKH lp G) (λ_ _=>obs (by kernel_rfl)) λcall a0 a1 a2 H n k=>by kernel_rfl
def AIl(lp:Aa)(G:AQ)(call:AP)(k:KV):An:=.n
theorem AHA{lp:Aa}(hL:Ar lp)(G:AQ):BN G 152 (Bj (AFm lp G)):=
 .mk AO9 <| D6 hL (an:=AIl lp G) (λ_ _=>obs (by kernel_rfl)) λcall a0 a1 H n k=>by kernel_rfl
def AJC(lp:Aa)(G:AQ)(call:AP)(k:KV):An:=(.s .n (.s .n (.j (λR=>XY lp G call k) (.s .n (.b (.l _ (TF lp G call k) (λR H n=>(rg R q0,rg R q2,rg R wU,rg R VN,rg R fZ,H,n)) λih6=>.n))) .n)))
theorem AKs{lp:Aa}(hL:Ar lp)(G:AQ):BN G 153 (ar3 (AFo lp G)):=
 .mk ALY <| sf3 hL (an:=AJC lp G) (λ_ _=>obs (by kernel_rfl)) λcall a0 a1 a2 H n k=>by kernel_rfl
def AMY(lp:Aa)(G:AQ)(call:AP)(k:KV):An:=.n
theorem AOT{lp:Aa}(hL:Ar lp)(G:AQ):BN G 154 (ar3 (ADa lp G)):=
 .mk ANn <| sf3 hL (an:=AMY lp G) (λ_ _=>obs (by kernel_rfl)) λcall a0 a1 a2 H n k=>by kernel_rfl
def AGm(lp:Aa)(G:AQ)(call:AP)(k:KV):An:=(.s .n (.s .n (.s .n (.s .n (.j (λR=>UM lp G call k) (.s .n (.b (.l _ (Nj lp G call k) (λR H n=>(rg R q2,rg R q12,rg R q40,rg R q41,rg R q42,H,n)) λih25=>.n))) .n)))))
theorem ANs{lp:Aa}(hL:Ar lp)(G:AQ):BN G 155 (ar3 (AEK lp G)):=
 .mk APD <| sf3 hL (an:=AGm lp G) (λ_ _=>obs (by kernel_rfl)) λcall a0 a1 a2 H n k=>by kernel_rfl
def AI5(lp:Aa)(G:AQ)(call:AP)(k:KV):An:=.n
theorem ALV{lp:Aa}(hL:Ar lp)(G:AQ):BN G 157 (CQ (AAH lp G)):=
 .mk J3 <| EO hL (an:=AI5 lp G) (λ_ _=>obs (by kernel_rfl)) λcall a0 H n k=>by kernel_rfl
def ANl(lp:Aa)(G:AQ)(call:AP)(k:KV):An:=.n
theorem AGx{lp:Aa}(hL:Ar lp)(G:AQ):BN G 158 (CQ (zG lp G)):=
 .mk ALn <| EO hL (an:=ANl lp G) (λ_ _=>obs (by kernel_rfl)) λcall a0 H n k=>by kernel_rfl
def AKy(lp:Aa)(G:AQ)(call:AP)(k:KV):An:=(.s .n (.s .n (.s .n (.s .n (.s .n (.s .n (.j (λR=>Hr lp G call k (rg R q2) (rg R q3) (rg R q37)) .n .n)))))))
theorem AHp{lp:Aa}(hL:Ar lp)(G:AQ):BN G 159 (CQ (AEM lp G)):=
 .mk ALG <| EO hL (an:=AKy lp G) (λ_ _=>obs (by kernel_rfl)) λcall a0 H n k=>by kernel_rfl
def AJi(lp:Aa)(G:AQ)(call:AP)(k:KV):An:=(.s .n (.s .n (.s (.s .n (.c (.j (λR=>JH lp G call k) .n .n) .n)) (.j (λR=>Jd lp G call k (rg R q0) (rg R q1)) .n .n))))
theorem AIc{lp:Aa}(hL:Ar lp)(G:AQ):BN G 160 (Bj (ABF lp G)):=
 .mk AHI <| D6 hL (an:=AJi lp G) (λ_ _=>obs (by kernel_rfl)) λcall a0 a1 H n k=>by kernel_rfl
def AMZ(lp:Aa)(G:AQ)(call:AP)(k:KV):An:=(.s .n (.b (.l _ (VI lp G call k) (λR H n=>(rg R q0,rg R q1,rg R q2,rg R q3,rg R q8,H,n)) λih2=>(.s .n (.j (λR=>XW lp G call k ih2 (rg R q0) (rg R q1) (rg R q2) (rg R q3) (rg R q8)) (.b (.s .n (.b (.l _ (TR lp G call k ih2) (λR H n=>(rg R q0,rg R q1,rg R q2,rg R q3,rg R q8,rg R q9,H,n)) λih6=>.n)))) .n)))))
theorem ANq{lp:Aa}(hL:Ar lp)(G:AQ):BN G 161 (P5 (ABK lp G)):=
 .mk AJH <| sf4 hL (an:=AMZ lp G) (λ_ _=>obs (by kernel_rfl)) λcall a0 a1 a2 a3 H n k=>by kernel_rfl
def AHP(lp:Aa)(G:AQ)(call:AP)(k:KV):An:=(.j (λR=>Xt lp G call k (rg R q0) (rg R q1) (rg R q2) (rg R q3) (rg R q4)) (.s .n (.c (.s .n (.s .n (.j (λR=>Vm lp G call k (rg R q0) (rg R q1) (rg R q10)) (.b (.l _ (NY lp G call k) (λR H n=>(rg R q0,rg R q1,rg R q4,rg R q10,rg R q11,H,n)) λih96=>.n)) (.s (.s .n (.b (.l _ (Nc lp G call k) (λR H n=>(rg R q0,rg R q10,rg R q13,H,n)) λih82=>.n))) .n)))) .n)) (.j (λR=>WH lp G call k (rg R q0) (rg R q1) (rg R q2) (rg R q3) (rg R q4)) (.s .n (.c (.s .n (.s .n (.j (λR=>Ug lp G call k (rg R q0) (rg R q2) (rg R Vh)) (.b (.l _ (N9 lp G call k) (λR H n=>(rg R q0,rg R q2,rg R q4,rg R Vh,rg R q15,H,n)) λih65=>.n)) (.s (.s .n (.b (.l _ (OH lp G call k) (λR H n=>(rg R q0,rg R Vh,rg R wU,H,n)) λih52=>.n))) .n)))) .n)) (.s .n (.s .n (.s .n (.j (λR=>LC lp G call k (rg R q0) (rg R q1) (rg R q2) (rg R q3) (rg R q4) (rg R VN) (rg R fZ) (rg R Vx) (rg R jI)) .n (.s .n (.j (λR=>Ti lp G call k (rg R q0) (rg R q1) (rg R q2) (rg R q3) (rg R q4) (rg R VN) (rg R fZ) (rg R Vx)) (.b (.l _ (OO lp G call k) (λR H n=>(rg R q0,rg R q1,rg R q2,rg R q3,rg R q4,rg R VN,rg R fZ,rg R Vx,rg R jI,rg R q22,H,n)) λih32=>.n)) (.s .n (.j (λR=>JM lp G call k (rg R q0) (rg R q1) (rg R q3) (rg R q4) (rg R VN) (rg R Vx) (rg R q24)) .n (.j (λR=>Jh lp G call k (rg R q0) (rg R q3) (rg R q4) (rg R VN) (rg R q24)) .n .n)))))))))))
theorem AOM{lp:Aa}(hL:Ar lp)(G:AQ):BN G 162 (RU (ACw lp G)):=
 .mk AJ8 <| sf5 hL (an:=AHP lp G) (λ_ _=>obs (by kernel_rfl)) λcall a0 a1 a2 a3 a4 H n k=>by kernel_rfl
def AN0(lp:Aa)(G:AQ)(call:AP)(k:KV):An:=(.s .n (.b (.l _ (Vt lp G call k) (λR H n=>(rg R q0,rg R q1,rg R q2,rg R q3,rg R q8,H,n)) λih2=>(.s .n (.j (λR=>WE lp G call k ih2 (rg R q0) (rg R q1) (rg R q2) (rg R q3) (rg R q8)) (.b (.s .n (.b (.l _ (Uz lp G call k ih2) (λR H n=>(rg R q0,rg R q1,rg R q2,rg R q3,rg R q8,rg R q9,H,n)) λih6=>.n)))) .n)))))
theorem AOY{lp:Aa}(hL:Ar lp)(G:AQ):BN G 163 (P5 (AB6 lp G)):=
 .mk AI3 <| sf4 hL (an:=AN0 lp G) (λ_ _=>obs (by kernel_rfl)) λcall a0 a1 a2 a3 H n k=>by kernel_rfl
def AIT(lp:Aa)(G:AQ)(call:AP)(k:KV):An:=(.j (λR=>YA lp G call k (rg R q0) (rg R q1) (rg R q2) (rg R q3) (rg R q4)) (.s .n (.c (.s .n (.s .n (.j (λR=>Uf lp G call k (rg R q0) (rg R q1) (rg R q10)) (.b (.l _ (OJ lp G call k) (λR H n=>(rg R q0,rg R q1,rg R q4,rg R q10,rg R q11,H,n)) λih96=>.n)) (.s (.s .n (.b (.l _ (OT lp G call k) (λR H n=>(rg R q0,rg R q10,rg R q13,H,n)) λih82=>.n))) .n)))) .n)) (.j (λR=>XI lp G call k (rg R q0) (rg R q1) (rg R q2) (rg R q3) (rg R q4)) (.s .n (.c (.s .n (.s .n (.j (λR=>Vj lp G call k (rg R q0) (rg R q2) (rg R Vh)) (.b (.l _ (OI lp G call k) (λR H n=>(rg R q0,rg R q2,rg R q4,rg R Vh,rg R q15,H,n)) λih65=>.n)) (.s (.s .n (.b (.l _ (OV lp G call k) (λR H n=>(rg R q0,rg R Vh,rg R wU,H,n)) λih52=>.n))) .n)))) .n)) (.s .n (.s .n (.s .n (.j (λR=>NC lp G call k (rg R q0) (rg R q1) (rg R q2) (rg R q3) (rg R q4) (rg R VN) (rg R fZ) (rg R Vx) (rg R jI)) .n (.s .n (.j (λR=>Uw lp G call k (rg R q0) (rg R q1) (rg R q2) (rg R q3) (rg R q4) (rg R VN) (rg R fZ) (rg R Vx)) (.b (.l _ (OW lp G call k) (λR H n=>(rg R q0,rg R q1,rg R q2,rg R q3,rg R q4,rg R VN,rg R fZ,rg R Vx,rg R jI,rg R q22,H,n)) λih32=>.n)) (.s .n (.j (λR=>Jj lp G call k (rg R q0) (rg R q1) (rg R q3) (rg R q4) (rg R VN) (rg R Vx) (rg R q24)) .n (.j (λR=>JL lp G call k (rg R q0) (rg R q3) (rg R q4) (rg R VN) (rg R q24)) .n .n)))))))))))
theorem AG8{lp:Aa}(hL:Ar lp)(G:AQ):BN G 164 (RU (zT lp G)):=
 .mk AID <| sf5 hL (an:=AIT lp G) (λ_ _=>obs (by kernel_rfl)) λcall a0 a1 a2 a3 a4 H n k=>by kernel_rfl
def AKk(lp:Aa)(G:AQ)(call:AP)(k:KV):An:=(.s .n (.s .n (.j (λR=>Wp lp G call k (rg R q0)) (.s .n (.b (.l _ (Ns lp G call k) (λR H n=>(rg R q0,rg R q1,rg R VN,rg R fZ,rg R Vx,H,n)) λih18=>.n))) .n)))
theorem AM2{lp:Aa}(hL:Ar lp)(G:AQ):BN G 165 (Bj (ADL lp G)):=
 .mk AIk <| D6 hL (an:=AKk lp G) (λ_ _=>obs (by kernel_rfl)) λcall a0 a1 H n k=>by kernel_rfl
def AMw(lp:Aa)(G:AQ)(call:AP)(k:KV):An:=(.s .n (.j (λR=>LQ lp G call k (rg R q0) (rg R q1) (rg R q4) (rg R q5)) .n (.s .n (.s .n (.s .n (.j (λR=>Jv lp G call k (rg R q1) (rg R q9) (rg R q10)) .n .n))))))
theorem AOn{lp:Aa}(hL:Ar lp)(G:AQ):BN G 166 (Bj (ACs lp G)):=
 .mk AMa <| D6 hL (an:=AMw lp G) (λ_ _=>obs (by kernel_rfl)) λcall a0 a1 H n k=>by kernel_rfl
def AId(lp:Aa)(G:AQ)(call:AP)(k:KV):An:=.n
theorem AK7{lp:Aa}(hL:Ar lp)(G:AQ):BN G 167 (CQ (ABW lp G)):=
 .mk AHe <| EO hL (an:=AId lp G) (λ_ _=>obs (by kernel_rfl)) λcall a0 H n k=>by kernel_rfl
def ANX(lp:Aa)(G:AQ)(call:AP)(k:KV):An:=(.b (.s .n (.c .n (.s .n (.c .n (.s .n (.c (.s .n (.j (λR=>Jb lp G call k (rg R q1)) .n .n)) .n)))))))
theorem ALW{lp:Aa}(hL:Ar lp)(G:AQ):BN G 168 (Bj (AGT lp G)):=
 .mk ALT <| D6 hL (an:=ANX lp G) (λ_ _=>obs (by kernel_rfl)) λcall a0 a1 H n k=>by kernel_rfl
def AOB(lp:Aa)(G:AQ)(call:AP)(k:KV):An:=(.s .n (.s .n (.j (λR=>WS lp G call k (rg R q0) (rg R q2) (rg R q4) (rg R q10)) (.b (.l _ (VT lp G call k) (λR H n=>(rg R q0,rg R q2,rg R q4,rg R q10,rg R q11,H,n)) λih6=>.n)) .n)))
theorem ALc{lp:Aa}(hL:Ar lp)(G:AQ):BN G 169 (RU (ACG lp G)):=
 .mk AJn <| sf5 hL (an:=AOB lp G) (λ_ _=>obs (by kernel_rfl)) λcall a0 a1 a2 a3 a4 H n k=>by kernel_rfl
def AHu(lp:Aa)(G:AQ)(call:AP)(k:KV):An:=(.s .n (.j (λR=>Ld lp G call k (rg R q0) (rg R q4) (rg R q5)) (.s .n (.c (.s .n (.b (.l _ (NQ lp G call k) (λR H n=>(rg R q0,rg R q4,rg R q5,rg R q12,rg R q13,rg R Vh,H,n)) λih37=>.n))) .n)) .n))
theorem AMd{lp:Aa}(hL:Ar lp)(G:AQ):BN G 170 (ar3 (AAZ lp G)):=
 .mk AMN <| sf3 hL (an:=AHu lp G) (λ_ _=>obs (by kernel_rfl)) λcall a0 a1 a2 H n k=>by kernel_rfl
def AL4(lp:Aa)(G:AQ)(call:AP)(k:KV):An:=(.s .n (.s .n (.j (λR=>U6 lp G call k (rg R q0) (rg R q3)) (.s .n (.b (.l _ (Kt lp G call k) (λR H n=>(rg R q0,rg R q3,rg R Vx,rg R jI,rg R q22,H,n)) λih111=>.n))) (.s .n (.b (.s .n (.c .n (.s .n (.c .n (.s .n (.c .n (.s .n (.c .n (.s .n (.c .n (.s .n (.c .n (.s .n (.c .n (.j (λR=>Jl lp G call k (rg R q0) (rg R q3) (rg R q31) (rg R q78)) .n .n))))))))))))))))))))
theorem AHy{lp:Aa}(hL:Ar lp)(G:AQ):BN G 171 (Bj (ABu lp G)):=
 .mk AG2 <| D6 hL (an:=AL4 lp G) (λ_ _=>obs (by kernel_rfl)) λcall a0 a1 H n k=>by kernel_rfl
def AOR(lp:Aa)(G:AQ)(call:AP)(k:KV):An:=.n
theorem AKU{lp:Aa}(hL:Ar lp)(G:AQ):BN G 172 (Bj (ADG lp G)):=
 .mk AKV <| D6 hL (an:=AOR lp G) (λ_ _=>obs (by kernel_rfl)) λcall a0 a1 H n k=>by kernel_rfl
def AH5(lp:Aa)(G:AQ)(call:AP)(k:KV):An:=(.s .n (.j (λR=>Xp lp G call k) (.s .n (.b (.l _ (Un lp G call k) (λR H n=>(rg R q0,rg R q1,rg R q7,rg R q8,H,n)) λih3=>.n))) .n))
theorem ANZ{lp:Aa}(hL:Ar lp)(G:AQ):BN G 173 (Bj (AEs lp G)):=
 .mk AOX <| D6 hL (an:=AH5 lp G) (λ_ _=>obs (by kernel_rfl)) λcall a0 a1 H n k=>by kernel_rfl
def AHb(lp:Aa)(G:AQ)(call:AP)(k:KV):An:=.n
theorem AK2{lp:Aa}(hL:Ar lp)(G:AQ):BN G 174 (ar3 (AFg lp G)):=
 .mk AKu <| sf3 hL (an:=AHb lp G) (λ_ _=>obs (by kernel_rfl)) λcall a0 a1 a2 H n k=>by kernel_rfl
def AHx(lp:Aa)(G:AQ)(call:AP)(k:KV):An:=(.s .n (.s .n (.j (λR=>X0 lp G call k (rg R q8) (rg R q9)) (.b (.l _ (UU lp G call k) (λR H n=>(rg R q0,rg R q1,rg R q2,rg R q3,rg R q8,rg R q9,H,n)) λih8=>.n)) .n)))
theorem AHZ{lp:Aa}(hL:Ar lp)(G:AQ):BN G 175 (P5 (ABJ lp G)):=
 .mk AOl <| sf4 hL (an:=AHx lp G) (λ_ _=>obs (by kernel_rfl)) λcall a0 a1 a2 a3 H n k=>by kernel_rfl
def AMu(lp:Aa)(G:AQ)(call:AP)(k:KV):An:=.n
theorem AKf{lp:Aa}(hL:Ar lp)(G:AQ):BN G 176 (CQ (AFL lp G)):=
 .mk APC <| EO hL (an:=AMu lp G) (λ_ _=>obs (by kernel_rfl)) λcall a0 H n k=>by kernel_rfl
def AK5(lp:Aa)(G:AQ)(call:AP)(k:KV):An:=(.s .n (.s .n (.s .n (.j (λR=>La lp G call k (rg R q2) (rg R q4)) .n .n))))
theorem ALe{lp:Aa}(hL:Ar lp)(G:AQ):BN G 177 (CQ (AEk lp G)):=
 .mk AHg <| EO hL (an:=AK5 lp G) (λ_ _=>obs (by kernel_rfl)) λcall a0 H n k=>by kernel_rfl
def ALD(lp:Aa)(G:AQ)(call:AP)(k:KV):An:=(.s .n (.s .n (.j (λR=>X4 lp G call k (rg R q0) (rg R q2) (rg R q4) (rg R q10)) (.b (.l _ (VW lp G call k) (λR H n=>(rg R q0,rg R q2,rg R q4,rg R q10,rg R q11,H,n)) λih6=>.n)) .n)))
theorem AKQ{lp:Aa}(hL:Ar lp)(G:AQ):BN G 178 (RU (AET lp G)):=
 .mk AOJ <| sf5 hL (an:=ALD lp G) (λ_ _=>obs (by kernel_rfl)) λcall a0 a1 a2 a3 a4 H n k=>by kernel_rfl
def AHH(lp:Aa)(G:AQ)(call:AP)(k:KV):An:=(.s .n (.s .n (.j (λR=>Xh lp G call k (rg R q0) (rg R q2) (rg R q4) (rg R q10)) (.b (.l _ (SA lp G call k) (λR H n=>(rg R q0,rg R q2,rg R q4,rg R q10,rg R q11,H,n)) λih6=>.n)) .n)))
theorem AL7{lp:Aa}(hL:Ar lp)(G:AQ):BN G 179 (RU (AAR lp G)):=
 .mk AHC <| sf5 hL (an:=AHH lp G) (λ_ _=>obs (by kernel_rfl)) λcall a0 a1 a2 a3 a4 H n k=>by kernel_rfl
def AIh(lp:Aa)(G:AQ)(call:AP)(k:KV):An:=(.s .n (.s .n (.s .n (.b (.l _ (Nz lp G call k) (λR H n=>(rg R q0,rg R q7,rg R jI,rg R q22,rg R q23,H,n)) λih13=>.n)))))
theorem AO7{lp:Aa}(hL:Ar lp)(G:AQ):BN G 180 (P5 (AEe lp G)):=
 .mk AOC <| sf4 hL (an:=AIh lp G) (λ_ _=>obs (by kernel_rfl)) λcall a0 a1 a2 a3 H n k=>by kernel_rfl
def AJ3(lp:Aa)(G:AQ)(call:AP)(k:KV):An:=(.s .n (.b (.l _ (TP lp G call k) (λR H n=>(rg R q0,rg R q1,rg R q2,rg R q3,rg R q10,H,n)) λih1=>.n)))
theorem AOb{lp:Aa}(hL:Ar lp)(G:AQ):BN G 181 (RU (zW lp G)):=
 .mk ANj <| sf5 hL (an:=AJ3 lp G) (λ_ _=>obs (by kernel_rfl)) λcall a0 a1 a2 a3 a4 H n k=>by kernel_rfl
def AGo(lp:Aa)(G:AQ)(call:AP)(k:KV):An:=(.s .n (.j (λR=>Xb lp G call k) (.s .n (.b (.l _ (VX lp G call k) (λR H n=>(rg R q0,rg R q1,rg R q10,rg R q11,rg R q12,H,n)) λih6=>.n))) .n))
theorem ALH{lp:Aa}(hL:Ar lp)(G:AQ):BN G 182 (Bj (zB lp G)):=
 .mk APM <| D6 hL (an:=AGo lp G) (λ_ _=>obs (by kernel_rfl)) λcall a0 a1 H n k=>by kernel_rfl
def AM0(lp:Aa)(G:AQ)(call:AP)(k:KV):An:=.n
theorem AOo{lp:Aa}(hL:Ar lp)(G:AQ):BN G 183 (Bj (AA7 lp G)):=
 .mk APd <| D6 hL (an:=AM0 lp G) (λ_ _=>obs (by kernel_rfl)) λcall a0 a1 H n k=>by kernel_rfl
def ANe(lp:Aa)(G:AQ)(call:AP)(k:KV):An:=(.s .n (.s .n (.j (λR=>Lu lp G call k (rg R q7)) .n .n)))
theorem ALE{lp:Aa}(hL:Ar lp)(G:AQ):BN G 184 (ar3 (ACh lp G)):=
 .mk AJ5 <| sf3 hL (an:=ANe lp G) (λ_ _=>obs (by kernel_rfl)) λcall a0 a1 a2 H n k=>by kernel_rfl
def ALq(lp:Aa)(G:AQ)(call:AP)(k:KV):An:=.n
theorem ALs{lp:Aa}(hL:Ar lp)(G:AQ):BN G 185 (Bj (AEt lp G)):=
 .mk AOv <| D6 hL (an:=ALq lp G) (λ_ _=>obs (by kernel_rfl)) λcall a0 a1 H n k=>by kernel_rfl
def AOj(lp:Aa)(G:AQ)(call:AP)(k:KV):An:=.n
theorem APX{lp:Aa}(hL:Ar lp)(G:AQ):BN G 186 (Bj (AEz lp G)):=
 .mk ANA <| D6 hL (an:=AOj lp G) (λ_ _=>obs (by kernel_rfl)) λcall a0 a1 H n k=>by kernel_rfl
def AJF(lp:Aa)(G:AQ)(call:AP)(k:KV):An:=.n
theorem ANI{lp:Aa}(hL:Ar lp)(G:AQ):BN G 187 (Bj (AC2 lp G)):=
 .mk AIb <| D6 hL (an:=AJF lp G) (λ_ _=>obs (by kernel_rfl)) λcall a0 a1 H n k=>by kernel_rfl
def ALi(lp:Aa)(G:AQ)(call:AP)(k:KV):An:=.n
theorem AJU{lp:Aa}(hL:Ar lp)(G:AQ):BN G 188 (Bj (ABv lp G)):=
 .mk APJ <| D6 hL (an:=ALi lp G) (λ_ _=>obs (by kernel_rfl)) λcall a0 a1 H n k=>by kernel_rfl
def AMp(lp:Aa)(G:AQ)(call:AP)(k:KV):An:=(.s .n (.s (.s .n (.b (.j (λR=>MN lp G call k (rg R q0) (rg R q3) (rg R q8)) .n (.c (.s .n (.j (λR=>MV lp G call k (rg R q0) (rg R q3) (rg R q4)) .n (.s .n (.j (λR=>LJ lp G call k) .n .n)))) .n)))) .n))
theorem AMo{lp:Aa}(hL:Ar lp)(G:AQ):BN G 189 (Bj (AAU lp G)):=
 .mk AM7 <| D6 hL (an:=AMp lp G) (λ_ _=>obs (by kernel_rfl)) λcall a0 a1 H n k=>by kernel_rfl
def AK1(lp:Aa)(G:AQ)(call:AP)(k:KV):An:=.n
theorem AKI{lp:Aa}(hL:Ar lp)(G:AQ):BN G 190 (CQ (ADO lp G)):=
 .mk AMB <| EO hL (an:=AK1 lp G) (λ_ _=>obs (by kernel_rfl)) λcall a0 H n k=>by kernel_rfl
def AKe(lp:Aa)(G:AQ)(call:AP)(k:KV):An:=(.s .n (.s .n (.j (λR=>XH lp G call k (rg R q6) (rg R q7)) (.b (.l _ (VU lp G call k) (λR H n=>(rg R q0,rg R q1,rg R q2,rg R q6,rg R q7,H,n)) λih8=>.n)) .n)))
theorem AJw{lp:Aa}(hL:Ar lp)(G:AQ):BN G 191 (ar3 (ACn lp G)):=
 .mk AGn <| sf3 hL (an:=AKe lp G) (λ_ _=>obs (by kernel_rfl)) λcall a0 a1 a2 H n k=>by kernel_rfl
def ALC(lp:Aa)(G:AQ)(call:AP)(k:KV):An:=.n
theorem AH0{lp:Aa}(hL:Ar lp)(G:AQ):BN G 192 (CQ (AAx lp G)):=
 .mk AMX <| EO hL (an:=ALC lp G) (λ_ _=>obs (by kernel_rfl)) λcall a0 H n k=>by kernel_rfl
def ANN(lp:Aa)(G:AQ)(call:AP)(k:KV):An:=(.s .n (.s .n (.j (λR=>VG lp G call k (rg R q0) (rg R q2) (rg R q63)) (.s .n (.b (.l _ (Nw lp G call k) (λR H n=>(rg R q0,rg R q2,rg R q3,rg R q16,rg R wU,rg R VN,rg R q63,H,n)) λih37=>.n))) (.s .n (.j (λR=>TL lp G call k (rg R q2) (rg R q6) (rg R q63)) (.b (.l _ (Np lp G call k) (λR H n=>(rg R q0,rg R q2,rg R q6,rg R q63,H,n)) λih17=>(.s .n (.b (.s .n (.s .n (.j (λR=>Jr lp G call k ih17 (rg R q0) (rg R q2) (rg R q6) (rg R q7) (rg R q8) (rg R q63)) .n .n))))))) .n)))))
theorem AKm{lp:Aa}(hL:Ar lp)(G:AQ):BN G 193 (CQ (ABb lp G)):=
 .mk AHq <| EO hL (an:=ANN lp G) (λ_ _=>obs (by kernel_rfl)) λcall a0 H n k=>by kernel_rfl
def AJ0(lp:Aa)(G:AQ)(call:AP)(k:KV):An:=(.s .n (.b (.l _ (Sz lp G call k) (λR H n=>(rg R q0,rg R q1,rg R q2,rg R q3,rg R q10,H,n)) λih1=>.n)))
theorem AGz{lp:Aa}(hL:Ar lp)(G:AQ):BN G 194 (RU (AGG lp G)):=
 .mk AN5 <| sf5 hL (an:=AJ0 lp G) (λ_ _=>obs (by kernel_rfl)) λcall a0 a1 a2 a3 a4 H n k=>by kernel_rfl
def AOA(lp:Aa)(G:AQ)(call:AP)(k:KV):An:=(.s .n (.b (.l _ (Ui lp G call k) (λR H n=>(rg R q0,rg R q1,rg R q2,rg R q3,rg R q10,H,n)) λih1=>.n)))
theorem ALl{lp:Aa}(hL:Ar lp)(G:AQ):BN G 195 (RU (AF1 lp G)):=
 .mk AKn <| sf5 hL (an:=AOA lp G) (λ_ _=>obs (by kernel_rfl)) λcall a0 a1 a2 a3 a4 H n k=>by kernel_rfl
def AK3(lp:Aa)(G:AQ)(call:AP)(k:KV):An:=(.s .n (.s .n (.j (λR=>L8 lp G call k (rg R q7)) .n .n)))
theorem AO3{lp:Aa}(hL:Ar lp)(G:AQ):BN G 196 (ar3 (AAv lp G)):=
 .mk AO8 <| sf3 hL (an:=AK3 lp G) (λ_ _=>obs (by kernel_rfl)) λcall a0 a1 a2 H n k=>by kernel_rfl
def AIx(lp:Aa)(G:AQ)(call:AP)(k:KV):An:=.n
theorem APY{lp:Aa}(hL:Ar lp)(G:AQ):BN G 197 (Bj (AGS lp G)):=
 .mk AOU <| D6 hL (an:=AIx lp G) (λ_ _=>obs (by kernel_rfl)) λcall a0 a1 H n k=>by kernel_rfl
def ALo(lp:Aa)(G:AQ)(call:AP)(k:KV):An:=.n
theorem AJr{lp:Aa}(hL:Ar lp)(G:AQ):BN G 198 (ar3 (ADF lp G)):=
 .mk AH2 <| sf3 hL (an:=ALo lp G) (λ_ _=>obs (by kernel_rfl)) λcall a0 a1 a2 H n k=>by kernel_rfl
def ANK(lp:Aa)(G:AQ)(call:AP)(k:KV):An:=.n
theorem AMk{lp:Aa}(hL:Ar lp)(G:AQ):BN G 199 (Bj (AA2 lp G)):=
 .mk AIj <| D6 hL (an:=ANK lp G) (λ_ _=>obs (by kernel_rfl)) λcall a0 a1 H n k=>by kernel_rfl
def AOt(lp:Aa)(G:AQ)(call:AP)(k:KV):An:=.n
theorem AKt{lp:Aa}(hL:Ar lp)(G:AQ):BN G 200 (Bj (ACp lp G)):=
 .mk AOS <| D6 hL (an:=AOt lp G) (λ_ _=>obs (by kernel_rfl)) λcall a0 a1 H n k=>by kernel_rfl
def ANC(lp:Aa)(G:AQ)(call:AP)(k:KV):An:=(.s .n (.s .n (.j (λR=>LG lp G call k (rg R q7)) .n .n)))
theorem AIi{lp:Aa}(hL:Ar lp)(G:AQ):BN G 201 (ar3 (AAY lp G)):=
 .mk ANW <| sf3 hL (an:=ANC lp G) (λ_ _=>obs (by kernel_rfl)) λcall a0 a1 a2 H n k=>by kernel_rfl
def AKT(lp:Aa)(G:AQ)(call:AP)(k:KV):An:=.n
theorem ANa{lp:Aa}(hL:Ar lp)(G:AQ):BN G 202 (Bj (ABm lp G)):=
 .mk AMS <| D6 hL (an:=AKT lp G) (λ_ _=>obs (by kernel_rfl)) λcall a0 a1 H n k=>by kernel_rfl
def AMl(lp:Aa)(G:AQ)(call:AP)(k:KV):An:=(.s .n (.s .n (.j (λR=>LX lp G call k (rg R q7)) .n .n)))
theorem ANy{lp:Aa}(hL:Ar lp)(G:AQ):BN G 203 (ar3 (AAJ lp G)):=
 .mk AIo <| sf3 hL (an:=AMl lp G) (λ_ _=>obs (by kernel_rfl)) λcall a0 a1 a2 H n k=>by kernel_rfl
def ANJ(lp:Aa)(G:AQ)(call:AP)(k:KV):An:=.n
theorem AG9{lp:Aa}(hL:Ar lp)(G:AQ):BN G 204 (Bj (ABX lp G)):=
 .mk AIg <| D6 hL (an:=ANJ lp G) (λ_ _=>obs (by kernel_rfl)) λcall a0 a1 H n k=>by kernel_rfl
def AMm(lp:Aa)(G:AQ)(call:AP)(k:KV):An:=(.s .n (.s .n (.b (.l _ (TW lp G call k) (λR H n=>(rg R q0,rg R q2,rg R q3,H,n)) λih5=>.n))))
theorem AOG{lp:Aa}(hL:Ar lp)(G:AQ):BN G 205 (CQ (AAj lp G)):=
 .mk APZ <| EO hL (an:=AMm lp G) (λ_ _=>obs (by kernel_rfl)) λcall a0 H n k=>by kernel_rfl
def AK8(lp:Aa)(G:AQ)(call:AP)(k:KV):An:=(.s .n (.j (λR=>WT lp G call k) (.s .n (.b (.l _ (Ua lp G call k) (λR H n=>(rg R q0,rg R q1,rg R q7,rg R q8,H,n)) λih3=>.n))) .n))
theorem AJa{lp:Aa}(hL:Ar lp)(G:AQ):BN G 206 (Bj (ABw lp G)):=
 .mk ANE <| D6 hL (an:=AK8 lp G) (λ_ _=>obs (by kernel_rfl)) λcall a0 a1 H n k=>by kernel_rfl
def AII(lp:Aa)(G:AQ)(call:AP)(k:KV):An:=.n
theorem ANv{lp:Aa}(hL:Ar lp)(G:AQ):BN G 207 (ar3 (ABM lp G)):=
 .mk AGq <| sf3 hL (an:=AII lp G) (λ_ _=>obs (by kernel_rfl)) λcall a0 a1 a2 H n k=>by kernel_rfl
def AM4(lp:Aa)(G:AQ)(call:AP)(k:KV):An:=(.s .n (.j (λR=>WC lp G call k) (.s .n (.b (.l _ (Tf lp G call k) (λR H n=>(rg R q0,rg R q1,rg R q7,rg R q8,H,n)) λih3=>.n))) .n))
theorem AMx{lp:Aa}(hL:Ar lp)(G:AQ):BN G 208 (Bj (ABn lp G)):=
 .mk ALJ <| D6 hL (an:=AM4 lp G) (λ_ _=>obs (by kernel_rfl)) λcall a0 a1 H n k=>by kernel_rfl
def AHS(lp:Aa)(G:AQ)(call:AP)(k:KV):An:=.n
theorem ANk{lp:Aa}(hL:Ar lp)(G:AQ):BN G 209 (ar3 (AC3 lp G)):=
 .mk AKK <| sf3 hL (an:=AHS lp G) (λ_ _=>obs (by kernel_rfl)) λcall a0 a1 a2 H n k=>by kernel_rfl
def AIC(lp:Aa)(G:AQ)(call:AP)(k:KV):An:=(.s .n (.j (λR=>YG lp G call k) (.s .n (.b (.l _ (Sr lp G call k) (λR H n=>(rg R q0,rg R q1,rg R q7,rg R q8,H,n)) λih3=>.n))) .n))
theorem AHW{lp:Aa}(hL:Ar lp)(G:AQ):BN G 210 (Bj (AAd lp G)):=
 .mk AMW <| D6 hL (an:=AIC lp G) (λ_ _=>obs (by kernel_rfl)) λcall a0 a1 H n k=>by kernel_rfl
def APW(lp:Aa)(G:AQ)(call:AP)(k:KV):An:=.n
theorem AJv{lp:Aa}(hL:Ar lp)(G:AQ):BN G 211 (ar3 (zO lp G)):=
 .mk AJs <| sf3 hL (an:=APW lp G) (λ_ _=>obs (by kernel_rfl)) λcall a0 a1 a2 H n k=>by kernel_rfl
def AJf(lp:Aa)(G:AQ)(call:AP)(k:KV):An:=(.s .n (.s .n (.s .n (.j (λR=>DJ lp G call k (rg R q2) (rg R q4)) .n .n))))
theorem AJ6{lp:Aa}(hL:Ar lp)(G:AQ):BN G 212 (CQ (ABs lp G)):=
 .mk ALr <| EO hL (an:=AJf lp G) (λ_ _=>obs (by kernel_rfl)) λcall a0 H n k=>by kernel_rfl
def ALa(lp:Aa)(G:AQ)(call:AP)(k:KV):An:=.n
theorem AOE{lp:Aa}(hL:Ar lp)(G:AQ):BN G 213 (ar3 (AA3 lp G)):=
 .mk AOw <| sf3 hL (an:=ALa lp G) (λ_ _=>obs (by kernel_rfl)) λcall a0 a1 a2 H n k=>by kernel_rfl
def AKG(lp:Aa)(G:AQ)(call:AP)(k:KV):An:=(.s .n (.s .n (.s .n (.j (λR=>Wi lp G call k (rg R q3)) (.b (.l _ (TK lp G call k) (λR H n=>(rg R q0,rg R q3,H,n)) λih4=>(.s .n (.b (.j (λR=>JX lp G call k ih4 (rg R q0) (rg R q3)) .n .n))))) .n))))
theorem APS{lp:Aa}(hL:Ar lp)(G:AQ):BN G 214 (CQ (AFS lp G)):=
 .mk AH9 <| EO hL (an:=AKG lp G) (λ_ _=>obs (by kernel_rfl)) λcall a0 H n k=>by kernel_rfl
def FS(lp:Aa)(G:AQ):T SF:=(.n none (.n none (.n none (.n (some (RU (AcZ lp G))) (.n (some (yh (ARj lp G))) (.n (some (CQ (AR5 lp G))) (.n (some (CQ (AQj lp G))) (.n (some (CQ (AB9 lp G))) .e .e) (.n (some (ar3 (ACn lp G))) .e .e)) (.n (some (CQ (ASm lp G))) (.n (some (CQ (AEM lp G))) .e .e) .e)) (.n (some (CQ (ARt lp G))) (.n (some (ar3 (AQz lp G))) (.n (some (Bj (AF7 lp G))) .e .e) (.n (some (ar3 (ABM lp G))) .e .e)) (.n (some (ar3 (ADk lp G))) (.n (some (P5 (ABJ lp G))) .e .e) .e))) (.n (some (CQ (AQO lp G))) (.n (some (Bj (ASj lp G))) (.n (some (Bj (ASx lp G))) (.n (some (Bj (AD1 lp G))) .e .e) (.n (some (Bj (AA2 lp G))) .e .e)) (.n (some (Bj (ABr lp G))) (.n (some (CQ (ABW lp G))) .e .e) .e)) (.n (some (Bj (APn lp G))) (.n (some (Bj (AR3 lp G))) (.n (some (ar3 (ACx lp G))) .e .e) .e) (.n (some (CQ (zV lp G))) (.n (some (Bj (AA7 lp G))) .e .e) .e)))) (.n (some (Bj (ARm lp G))) (.n (some (CQ (AQy lp G))) (.n (some (CQ (AQ2 lp G))) (.n (some (Bj (AQG lp G))) (.n (some (P5 (AFW lp G))) .e .e) (.n (some (RU (AF1 lp G))) .e .e)) (.n (some (Bj (ASo lp G))) (.n (some (P5 (AB6 lp G))) .e .e) .e)) (.n (some (CQ (AQb lp G))) (.n (some (P5 (AP8 lp G))) (.n (some (RU (AFO lp G))) .e .e) (.n (some (ar3 (zO lp G))) .e .e)) (.n (some (CQ (AFK lp G))) (.n (some (RU (AAR lp G))) .e .e) .e))) (.n (some (Bj (ARb lp G))) (.n (some (ar3 (ARu lp G))) (.n (some (Bj (AS2 lp G))) (.n (some (ar3 (AGJ lp G))) .e .e) (.n (some (ar3 (AAJ lp G))) .e .e)) (.n (some (Bj (ABR lp G))) (.n (some (Bj (ABu lp G))) .e .e) .e)) (.n (some (Bj (ASq lp G))) (.n (some (CQ (AR6 lp G))) (.n (some (ar3 (AEK lp G))) .e .e) .e) (.n (some (CQ (ADz lp G))) (.n (some (Bj (AC2 lp G))) .e .e) .e))))) (.n (some (CQ (Abw lp G))) (.n (some (CQ (Abd lp G))) (.n (some (CQ (AP3 lp G))) (.n (some (CQ (APs lp G))) (.n (some (ar3 (ARV lp G))) (.n (some (CQ (ABj lp G))) .e .e) (.n (some (CQ (ABb lp G))) .e .e)) (.n (some (CQ (ASE lp G))) (.n (some (P5 (ABK lp G))) .e .e) .e)) (.n (some (Bj (AR9 lp G))) (.n (some (CQ (ASR lp G))) (.n (some (ar3 (ABP lp G))) .e .e) (.n (some (ar3 (AC3 lp G))) .e .e)) (.n (some (Bj (zL lp G))) (.n (some (CQ (AEk lp G))) .e .e) .e))) (.n (some (Bj (APj lp G))) (.n (some (Bj (AS0 lp G))) (.n (some (CQ (AS1 lp G))) (.n (some (CQ (AF4 lp G))) .e .e) (.n (some (ar3 (AAY lp G))) .e .e)) (.n (some (CQ (AAl lp G))) (.n (some (RU (ACG lp G))) .e .e) .e)) (.n (some (CQ (ARB lp G))) (.n (some (CQ (ARx lp G))) (.n (some (ar3 (AFo lp G))) .e .e) .e) (.n (some (ar3 (ABZ lp G))) (.n (some (Bj (AEt lp G))) .e .e) .e)))) (.n (some (CQ (APp lp G))) (.n (some (CQ (AP4 lp G))) (.n (some (Bj (ASN lp G))) (.n (some (Bj (APo lp G))) (.n (some (ar3 (ACg lp G))) .e .e) (.n (some (Bj (AGS lp G))) .e .e)) (.n (some (Bj (AAK lp G))) (.n (some (Bj (ADL lp G))) .e .e) .e)) (.n (some (Bj (AR8 lp G))) (.n (some (CQ (ARz lp G))) (.n (some (Bj (ACC lp G))) .e .e) (.n (some (ar3 (AA3 lp G))) .e .e)) (.n (some (CQ (AAk lp G))) (.n (some (RU (zW lp G))) .e .e) .e))) (.n (some (Bj (ARL lp G))) (.n (some (ar3 (ARY lp G))) (.n (some (ar3 (ASr lp G))) (.n (some (ar3 (AD0 lp G))) .e .e) (.n (some (CQ (AAj lp G))) .e .e)) (.n (some (P5 (AGY lp G))) (.n (some (Bj (AEs lp G))) .e .e) .e)) (.n (some (Bj (ASb lp G))) (.n (some (CQ (APu lp G))) (.n (some (CQ (AAH lp G))) .e .e) .e) (.n (some (ar3 (AGF lp G))) (.n (some (Bj (AAU lp G))) .e .e) .e)))))) (.n none (.n (some (yh (Aa8 lp G))) (.n (some (CQ (Acn lp G))) (.n (some (Bj (ASu lp G))) (.n (some (Bj (ASd lp G))) (.n (some (Bj (AQJ lp G))) (.n (some (ar3 (AEH lp G))) .e .e) (.n (some (CQ (AAx lp G))) .e .e)) (.n (some (CQ (AQr lp G))) (.n (some (Bj (ABF lp G))) .e .e) .e)) (.n (some (Bj (AQX lp G))) (.n (some (ar3 (ARy lp G))) (.n (some (ar3 (AFH lp G))) .e .e) (.n (some (Bj (ABn lp G))) .e .e)) (.n (some (Bj (ACt lp G))) (.n (some (CQ (AFL lp G))) .e .e) .e))) (.n (some (CQ (AR1 lp G))) (.n (some (ar3 (AQI lp G))) (.n (some (CQ (AS3 lp G))) (.n (some (Bj (AD5 lp G))) .e .e) (.n (some (Bj (ACp lp G))) .e .e)) (.n (some (Bj (AFx lp G))) (.n (some (Bj (AGT lp G))) .e .e) .e)) (.n (some (CQ (ARl lp G))) (.n (some (Bj (AQ7 lp G))) (.n (some (Bj (AFm lp G))) .e .e) .e) (.n (some (CQ (AGb lp G))) (.n (some (ar3 (ACh lp G))) .e .e) .e)))) (.n (some (CQ (AQd lp G))) (.n (some (CQ (AQe lp G))) (.n (some (Bj (AR0 lp G))) (.n (some (Bj (ARg lp G))) (.n (some (Bj (ADp lp G))) .e .e) (.n (some (ar3 (AAv lp G))) .e .e)) (.n (some (Bj (zI lp G))) (.n (some (RU (zT lp G))) .e .e) .e)) (.n (some (Bj (ASW lp G))) (.n (some (ar3 (ARn lp G))) .e (.n (some (CQ (ABs lp G))) .e .e)) (.n (some (CQ (ABq lp G))) (.n (some (P5 (AEe lp G))) .e .e) .e))) (.n (some (CQ (ARa lp G))) (.n (some (ar3 (AQN lp G))) (.n (some (CQ (ARh lp G))) (.n (some (ar3 (ABN lp G))) .e .e) (.n (some (Bj (ABX lp G))) .e .e)) (.n (some (Bj (AFJ lp G))) (.n (some (Bj (ADG lp G))) .e .e) .e)) (.n (some (ar3 (ARs lp G))) (.n (some (CQ (AQK lp G))) .e .e) (.n (some (yh (ACD lp G))) (.n (some (Bj (ABv lp G))) .e .e) .e))))) (.n (some (Bj (AcI lp G))) (.n (some (Bj (AP2 lp G))) (.n (some (ar3 (ARi lp G))) (.n (some (Bj (AQ6 lp G))) (.n (some (ar3 (APi lp G))) (.n (some (ar3 (AEq lp G))) .e .e) (.n (some (RU (AGG lp G))) .e .e)) (.n (some (CQ (APq lp G))) (.n (some (RU (ACw lp G))) .e .e) .e)) (.n (some (Bj (ASw lp G))) (.n (some (CQ (ARQ lp G))) (.n (some (P5 (AAo lp G))) .e .e) (.n (some (Bj (AAd lp G))) .e .e)) (.n (some (Bj (ADV lp G))) (.n (some (RU (AET lp G))) .e .e) .e))) (.n (some (Bj (AQp lp G))) (.n (some (CQ (ART lp G))) (.n (some (Bj (ARW lp G))) (.n (some (CQ (ADR lp G))) .e .e) (.n (some (Bj (ABm lp G))) .e .e)) (.n (some (CQ (AEE lp G))) (.n (some (ar3 (AAZ lp G))) .e .e) .e)) (.n (some (CQ (AP6 lp G))) (.n (some (Bj (ARI lp G))) (.n (some (ar3 (ADa lp G))) .e .e) .e) (.n (some (ar3 (ADW lp G))) (.n (some (Bj (AEz lp G))) .e .e) .e)))) (.n (some (P5 (ASY lp G))) (.n (some (CQ (ASV lp G))) (.n (some (Bj (ASP lp G))) (.n (some (Bj (ASZ lp G))) (.n (some (ar3 (AFB lp G))) .e .e) (.n (some (ar3 (ADF lp G))) .e .e)) (.n (some (Bj (ADh lp G))) (.n (some (Bj (ACs lp G))) .e .e) .e)) (.n (some (CQ (ASJ lp G))) (.n (some (Bj (ASH lp G))) (.n (some (P5 (AAQ lp G))) .e .e) (.n (some (CQ (AFS lp G))) .e .e)) (.n (some (CQ (ACE lp G))) (.n (some (Bj (zB lp G))) .e .e) .e))) (.n (some (Bj (AQD lp G))) (.n (some (CQ (APl lp G))) (.n (some (CQ (AQP lp G))) (.n (some (CQ (ABx lp G))) .e .e) (.n (some (Bj (ABw lp G))) .e .e)) (.n (some (Bj (AEo lp G))) (.n (some (ar3 (AFg lp G))) .e .e) .e)) (.n (some (Bj (AP1 lp G))) (.n (some (CQ (AQ0 lp G))) (.n (some (CQ (zG lp G))) .e .e) .e) (.n (some (yh (ABc lp G))) (.n (some (CQ (ADO lp G))) .e .e) .e)))))))
theorem AUt{lp:Aa}(hL:Ar lp)(G:AQ):T.All (λp s=>BN G p.key s) (FS lp G):=(.n0 (.n0 (.n0 (.n1 (AdK hL G) (.n1 (AXG hL G) (.n1 (AV5 hL G) (.n1 (AUC hL G) (.n1 (AJI hL G) .e .e) (.n1 (AJw hL G) .e .e)) (.n1 (AXS hL G) (.n1 (AHp hL G) .e .e) .e)) (.n1 (AYc hL G) (.n1 (AVg hL G) (.n1 (AOu hL G) .e .e) (.n1 (ANv hL G) .e .e)) (.n1 (AMH hL G) (.n1 (AHZ hL G) .e .e) .e))) (.n1 (AUs hL G) (.n1 (AVF hL G) (.n1 (AVb hL G) (.n1 (AN3 hL G) .e .e) (.n1 (AMk hL G) .e .e)) (.n1 (AIO hL G) (.n1 (AK7 hL G) .e .e) .e)) (.n1 (AVk hL G) (.n1 (ATi hL G) (.n1 (AN4 hL G) .e .e) .e) (.n1 (AKF hL G) (.n1 (AOo hL G) .e .e) .e)))) (.n1 (AUe hL G) (.n1 (AV6 hL G) (.n1 (AXp hL G) (.n1 (AW5 hL G) (.n1 (AHd hL G) .e .e) (.n1 (ALl hL G) .e .e)) (.n1 (AZl hL G) (.n1 (AOY hL G) .e .e) .e)) (.n1 (AZk hL G) (.n1 (AXD hL G) (.n1 (AJB hL G) .e .e) (.n1 (AJv hL G) .e .e)) (.n1 (ALm hL G) (.n1 (AL7 hL G) .e .e) .e))) (.n1 (AYy hL G) (.n1 (AVJ hL G) (.n1 (AW6 hL G) (.n1 (AKL hL G) .e .e) (.n1 (ANy hL G) .e .e)) (.n1 (ANO hL G) (.n1 (AHy hL G) .e .e) .e)) (.n1 (AUf hL G) (.n1 (AUz hL G) (.n1 (ANs hL G) .e .e) .e) (.n1 (AIv hL G) (.n1 (ANI hL G) .e .e) .e))))) (.n1 (Acv hL G) (.n1 (Acs hL G) (.n1 (AV4 hL G) (.n1 (AY2 hL G) (.n1 (AWy hL G) (.n1 (AKR hL G) .e .e) (.n1 (AKm hL G) .e .e)) (.n1 (AaD hL G) (.n1 (ANq hL G) .e .e) .e)) (.n1 (AUN hL G) (.n1 (AYP hL G) (.n1 (AM1 hL G) .e .e) (.n1 (ANk hL G) .e .e)) (.n1 (ANt hL G) (.n1 (ALe hL G) .e .e) .e))) (.n1 (AWl hL G) (.n1 (AYB hL G) (.n1 (AYN hL G) (.n1 (AMc hL G) .e .e) (.n1 (AIi hL G) .e .e)) (.n1 (AJX hL G) (.n1 (ALc hL G) .e .e) .e)) (.n1 (AVB hL G) (.n1 (ATg hL G) (.n1 (AKs hL G) .e .e) .e) (.n1 (AHU hL G) (.n1 (ALs hL G) .e .e) .e)))) (.n1 (AT3 hL G) (.n1 (AX9 hL G) (.n1 (AUM hL G) (.n1 (AXy hL G) (.n1 (AIU hL G) .e .e) (.n1 (APY hL G) .e .e)) (.n1 (ANT hL G) (.n1 (AM2 hL G) .e .e) .e)) (.n1 (ATK hL G) (.n1 (AWs hL G) (.n1 (AIL hL G) .e .e) (.n1 (AOE hL G) .e .e)) (.n1 (AOf hL G) (.n1 (AOb hL G) .e .e) .e))) (.n1 (AWo hL G) (.n1 (AZZ hL G) (.n1 (AX6 hL G) (.n1 (AIm hL G) .e .e) (.n1 (AOG hL G) .e .e)) (.n1 (AJo hL G) (.n1 (ANZ hL G) .e .e) .e)) (.n1 (AZ9 hL G) (.n1 (AVp hL G) (.n1 (ALV hL G) .e .e) .e) (.n1 (ALK hL G) (.n1 (AMo hL G) .e .e) .e)))))) (.n0 (.n1 (Aaf hL G) (.n1 (AdX hL G) (.n1 (AZ8 hL G) (.n1 (AWP hL G) (.n1 (AV1 hL G) (.n1 (AIY hL G) .e .e) (.n1 (AH0 hL G) .e .e)) (.n1 (AWW hL G) (.n1 (AIc hL G) .e .e) .e)) (.n1 (AYW hL G) (.n1 (AXa hL G) (.n1 (ALQ hL G) .e .e) (.n1 (AMx hL G) .e .e)) (.n1 (ANd hL G) (.n1 (AKf hL G) .e .e) .e))) (.n1 (AZT hL G) (.n1 (AY8 hL G) (.n1 (AWE hL G) (.n1 (AKC hL G) .e .e) (.n1 (AKt hL G) .e .e)) (.n1 (ANo hL G) (.n1 (ALW hL G) .e .e) .e)) (.n1 (ATS hL G) (.n1 (AY1 hL G) (.n1 (AHA hL G) .e .e) .e) (.n1 (AHr hL G) (.n1 (ALE hL G) .e .e) .e)))) (.n1 (AXg hL G) (.n1 (ATT hL G) (.n1 (AX2 hL G) (.n1 (AU9 hL G) (.n1 (APP hL G) .e .e) (.n1 (AO3 hL G) .e .e)) (.n1 (ALt hL G) (.n1 (AG8 hL G) .e .e) .e)) (.n1 (AVa hL G) (.n1 (AWH hL G) .e (.n1 (AJ6 hL G) .e .e)) (.n1 (AI0 hL G) (.n1 (AO7 hL G) .e .e) .e))) (.n1 (ATm hL G) (.n1 (AUL hL G) (.n1 (AWp hL G) (.n1 (APF hL G) .e .e) (.n1 (AG9 hL G) .e .e)) (.n1 (ANB hL G) (.n1 (AKU hL G) .e .e) .e)) (.n1 (AXJ hL G) (.n1 (AVl hL G) .e .e) (.n1 (AJE hL G) (.n1 (AJU hL G) .e .e) .e))))) (.n1 (AbH hL G) (.n1 (AUR hL G) (.n1 (AXK hL G) (.n1 (AZV hL G) (.n1 (AU4 hL G) (.n1 (ALA hL G) .e .e) (.n1 (AGz hL G) .e .e)) (.n1 (AYz hL G) (.n1 (AOM hL G) .e .e) .e)) (.n1 (AVO hL G) (.n1 (AXr hL G) (.n1 (AL0 hL G) .e .e) (.n1 (AHW hL G) .e .e)) (.n1 (AIn hL G) (.n1 (AKQ hL G) .e .e) .e))) (.n1 (AaA hL G) (.n1 (AWi hL G) (.n1 (AUS hL G) (.n1 (ANQ hL G) .e .e) (.n1 (ANa hL G) .e .e)) (.n1 (ANx hL G) (.n1 (AMd hL G) .e .e) .e)) (.n1 (ATr hL G) (.n1 (AUc hL G) (.n1 (AOT hL G) .e .e) .e) (.n1 (ALO hL G) (.n1 (APX hL G) .e .e) .e)))) (.n1 (AYZ hL G) (.n1 (AWr hL G) (.n1 (AZ1 hL G) (.n1 (AWe hL G) (.n1 (AMy hL G) .e .e) (.n1 (AJr hL G) .e .e)) (.n1 (AOx hL G) (.n1 (AOn hL G) .e .e) .e)) (.n1 (AY6 hL G) (.n1 (AVn hL G) (.n1 (AO5 hL G) .e .e) (.n1 (APS hL G) .e .e)) (.n1 (ALB hL G) (.n1 (ALH hL G) .e .e) .e))) (.n1 (ATq hL G) (.n1 (AVz hL G) (.n1 (AZ5 hL G) (.n1 (AMr hL G) .e .e) (.n1 (AJa hL G) .e .e)) (.n1 (AMR hL G) (.n1 (AK2 hL G) .e .e) .e)) (.n1 (AU1 hL G) (.n1 (AXP hL G) (.n1 (AGx hL G) .e .e) .e) (.n1 (AMz hL G) (.n1 (AKI hL G) .e .e) .e)))))))
theorem ASS{lp:Aa}(hL:Ar lp)(G:AQ):KQ F G (FS lp G):=λf s h=>by
 have:=T.All.Bf (p:=Dz f) (AUt hL G) h
 rw[Il]at this
 obtain⟨h,o⟩:=this
 exact⟨_,h,o⟩
end Go.R5
