/- Part of a proof; nothing is assumed. -/
import Derived.Test.YtcjkfmaoahojeaaGreatDoorPlain
import Derived.Test.YtcjkfmaoahojeaaGreatDoorCode
import Derived.Test.YtcjkfmaoahojeaaGreatDoorEngE
set_option linter.unusedVariables false
set_option linter.unusedSimpArgs false
noncomputable section
namespace Go.PQ
open Go.Eng
set_option maxRecDepth 100000
abbrev Ta:=Fa->AV->BP->KV->An
inductive Ld(G:AV)(n:Nat)(s:SF):Prop where
 |mk {af:AF} (h:T.get F n=some af) (o:AKL G af s):Ld G n s
def iM:Ta:=λlp G c k=>.n
theorem gq{lp:Fa}(hL:D8 lp)(G:AV):Ld G 3 (Gw (KL lp G)):=
 .mk Oa <| YG hL (an:=iM lp G) (λ_ _=>obs (by kernel_rfl)) λc a0 H n k=>by kernel_rfl
def yU:Ta:=λlp G c k=>.n
theorem AAB{lp:Fa}(hL:D8 lp)(G:AV):Ld G 5 (ar0 (Sm lp G)):=
 .mk Vo <| sf0 hL (an:=yU lp G) (λ_ _=>obs (by kernel_rfl)) λc H n k=>by kernel_rfl
def nP:Ta:=λlp G c k=>(.s .n (.s .n (.j (λR=>Nj lp G c k) (.s .n (.b (.l _ (TD lp G c k) (λR H n=>(rg R q26,rg R q27,rg R q28,H,n)) λih24=>.n))) .n)))
theorem nI{lp:Fa}(hL:D8 lp)(G:AV):Ld G 6 (Gw (MP lp G)):=
 .mk QV <| YG hL (an:=nP lp G) (λ_ _=>obs (by kernel_rfl)) λc a0 H n k=>by kernel_rfl
def vH:Ta:=λlp G c k=>(.s .n (.s .n (.j (λR=>GI lp G c k (rg R q1) (rg R q2) (rg R q3)) .n (.s .n (.s .n (.j (λR=>Ky lp G c k (rg R q2) (rg R q3)) (.s .n (.b (.l _ (Vq lp G c k) (λR H n=>(rg R q2,rg R q3,rg R q4,rg R q27,rg R q28,rg R q29,H,n)) λih22=>.n))) .n))))))
theorem yD{lp:Fa}(hL:D8 lp)(G:AV):Ld G 7 (Gw (Qd lp G)):=
 .mk Ue <| YG hL (an:=vH lp G) (λ_ _=>obs (by kernel_rfl)) λc a0 H n k=>by kernel_rfl
def AAD:Ta:=λlp G c k=>(.s .n (.s .n (.s .n (.j (λR=>IW lp G c k (rg R q1) (rg R q3)) .n (.s .n (.j (λR=>OT lp G c k (rg R q1) (rg R q3)) (.s .n (.b (.l _ (WG lp G c k) (λR H n=>(rg R q1,rg R q3,rg R q21,rg R q22,rg R q23,H,n)) λih34=>.n))) (.j (λR=>MH lp G c k (rg R q3)) (.s .n (.b (.l _ (WO lp G c k) (λR H n=>(rg R q3,rg R q39,rg R q40,rg R q41,H,n)) λih16=>.n))) .n)))))))
theorem zT{lp:Fa}(hL:D8 lp)(G:AV):Ld G 8 (Gw (Sj lp G)):=
 .mk Vt <| YG hL (an:=AAD lp G) (λ_ _=>obs (by kernel_rfl)) λc a0 H n k=>by kernel_rfl
def AEb:Ta:=λlp G c k=>.n
theorem ADe{lp:Fa}(hL:D8 lp)(G:AV):Ld G 9 (Gw (XW lp G)):=
 .mk Zf <| YG hL (an:=AEb lp G) (λ_ _=>obs (by kernel_rfl)) λc a0 H n k=>by kernel_rfl
def AAU:Ta:=λlp G c k=>.n
theorem AAK{lp:Fa}(hL:D8 lp)(G:AV):Ld G 10 (QS (Sr lp G)):=
 .mk Vm <| yI hL (an:=AAU lp G) (λ_ _=>obs (by kernel_rfl)) λc a0 a1 H n k=>by kernel_rfl
def AKe:Ta:=λlp G c k=>(.s .n (.s .n (.s .n (.s .n (.b (.l _ (qg lp G c k) (λR H n=>(rg R q3,rg R q4,rg R q5,H,n)) λih12=>.n))))))
theorem AJV{lp:Fa}(hL:D8 lp)(G:AV):Ld G 11 (Gw (tN lp G)):=
 .mk xA <| YG hL (an:=AKe lp G) (λ_ _=>obs (by kernel_rfl)) λc a0 H n k=>by kernel_rfl
def AAb:Ta:=λlp G c k=>.n
theorem AAf{lp:Fa}(hL:D8 lp)(G:AV):Ld G 12 (Gw (UQ lp G)):=
 .mk WX <| YG hL (an:=AAb lp G) (λ_ _=>obs (by kernel_rfl)) λc a0 H n k=>by kernel_rfl
def mV:Ta:=λlp G c k=>(.s .n (.s .n (.j (λR=>Oc lp G c k) (.s .n (.b (.l _ (Tv lp G c k) (λR H n=>(rg R q1,rg R q16,rg R q17,rg R q18,H,n)) λih8=>(.s .n (.s .n (.j (λR=>NZ lp G c k ih8 (rg R q1) (rg R q16) (rg R q17) (rg R q18)) (.b (.s .n (.s .n (.s .n (.b (.l _ (Sz lp G c k ih8) (λR H n=>(rg R q1,rg R q16,rg R q17,rg R q18,rg R q56,rg R q57,rg R q58,H,n)) λih48=>.n)))))) .n)))))) .n)))
theorem nG{lp:Fa}(hL:D8 lp)(G:AV):Ld G 13 (QS (L9 lp G)):=
 .mk QW <| yI hL (an:=mV lp G) (λ_ _=>obs (by kernel_rfl)) λc a0 a1 H n k=>by kernel_rfl
def vg:Ta:=λlp G c k=>.n
theorem wY{lp:Fa}(hL:D8 lp)(G:AV):Ld G 14 (Gw (Qi lp G)):=
 .mk Ul <| YG hL (an:=vg lp G) (λ_ _=>obs (by kernel_rfl)) λc a0 H n k=>by kernel_rfl
def qx:Ta:=λlp G c k=>(.s .n (.s .n (.j (λR=>PW lp G c k (rg R q3)) (.s .n (.b (.l _ (U4 lp G c k) (λR H n=>(rg R q3,rg R q7,rg R q8,rg R q9,H,n)) λih4=>.n))) .n)))
theorem qo{lp:Fa}(hL:D8 lp)(G:AV):Ld G 15 (Gw (Nv lp G)):=
 .mk Rh <| YG hL (an:=qx lp G) (λ_ _=>obs (by kernel_rfl)) λc a0 H n k=>by kernel_rfl
def yA:Ta:=λlp G c k=>.n
theorem vW{lp:Fa}(hL:D8 lp)(G:AV):Ld G 16 (Gw (Qc lp G)):=
 .mk Ut <| YG hL (an:=yA lp G) (λ_ _=>obs (by kernel_rfl)) λc a0 H n k=>by kernel_rfl
def ABF:Ta:=λlp G c k=>(.s .n (.s .n (.j (λR=>Kq lp G c k (rg R q1) (rg R q2) (rg R q3)) .n .n)))
theorem AA2{lp:Fa}(hL:D8 lp)(G:AV):Ld G 17 (Gw (UU lp G)):=
 .mk Wq <| YG hL (an:=ABF lp G) (λ_ _=>obs (by kernel_rfl)) λc a0 H n k=>by kernel_rfl
def xw:Ta:=λlp G c k=>(.s .n (.s .n (.j (λR=>Qz lp G c k (rg R q5)) (.s .n (.b (.l _ (V9 lp G c k) (λR H n=>(rg R q1,rg R q5,rg R q13,rg R q14,rg R q15,H,n)) λih4=>(.s .n (.s .n (.s (.b (.s .n (.s .n (.s .n (.j (λR=>Ba lp G c k ih4 (rg R q1) (rg R q5) (rg R q9) (rg R q13) (rg R q14) (rg R q15)) (.s .n (.b (.s .n (.c .n (.s .n (.c .n (.j (λR=>GN lp G c k ih4 (rg R q1) (rg R q5) (rg R q7) (rg R q8) (rg R q9) (rg R q13) (rg R q14) (rg R q15) (rg R q24) (rg R q94)) .n (.c .n (.j (λR=>GL lp G c k ih4 (rg R q1) (rg R q5) (rg R q7) (rg R q8) (rg R q9) (rg R q13) (rg R q14) (rg R q15) (rg R AaY)) .n .n))))))))) .n))))) .n)))))) .n)))
theorem xB{lp:Fa}(hL:D8 lp)(G:AV):Ld G 18 (QS (Qh lp G)):=
 .mk Uf <| yI hL (an:=xw lp G) (λ_ _=>obs (by kernel_rfl)) λc a0 a1 H n k=>by kernel_rfl
def AA6:Ta:=λlp G c k=>.n
theorem AAv{lp:Fa}(hL:D8 lp)(G:AV):Ld G 20 (Gw (UR lp G)):=
 .mk WU <| YG hL (an:=AA6 lp G) (λ_ _=>obs (by kernel_rfl)) λc a0 H n k=>by kernel_rfl
def vG:Ta:=λlp G c k=>(.s .n (.s .n (.j (λR=>G8 lp G c k (rg R q1) (rg R q3)) .n (.s .n (.j (λR=>MC lp G c k (rg R q1) (rg R q3) (rg R q4)) (.s .n (.b (.l _ (VP lp G c k) (λR H n=>(rg R q1,rg R q3,rg R q4,rg R q10,rg R q11,rg R q12,H,n)) λih19=>.n))) .n)))))
theorem vX{lp:Fa}(hL:D8 lp)(G:AV):Ld G 21 (Gw (Qs lp G)):=
 .mk Uh <| YG hL (an:=vG lp G) (λ_ _=>obs (by kernel_rfl)) λc a0 H n k=>by kernel_rfl
def AFr:Ta:=λlp G c k=>(.s .n (.s .n (.s .n (.j (λR=>VG lp G c k (rg R q1) (rg R q5)) (.s .n (.b (.l _ (lT lp G c k) (λR H n=>(rg R q1,rg R q5,rg R q9,rg R q10,rg R q11,H,n)) λih9=>.n))) .n))))
theorem AF3{lp:Fa}(hL:D8 lp)(G:AV):Ld G 22 (QS (bY lp G)):=
 .mk iQ <| yI hL (an:=AFr lp G) (λ_ _=>obs (by kernel_rfl)) λc a0 a1 H n k=>by kernel_rfl
def mJ:Ta:=λlp G c k=>(.s .n (.s .n (.s .n (.s .n (.j (λR=>GX lp G c k (rg R q0) (rg R q2) (rg R q3)) .n (.s .n (.j (λR=>JL lp G c k (rg R q0) (rg R q2) (rg R q3)) (.b (.l _ (S9 lp G c k) (λR H n=>(rg R q0,rg R q2,rg R q3,H,n)) λih34=>.n)) (.j (λR=>GY lp G c k (rg R q2) (rg R q3)) .n .n))))))))
theorem nU{lp:Fa}(hL:D8 lp)(G:AV):Ld G 24 (Gw (MS lp G)):=
 .mk QJ <| YG hL (an:=mJ lp G) (λ_ _=>obs (by kernel_rfl)) λc a0 H n k=>by kernel_rfl
def vN:Ta:=λlp G c k=>.n
theorem xO{lp:Fa}(hL:D8 lp)(G:AV):Ld G 25 (Gw (Qr lp G)):=
 .mk Us <| YG hL (an:=vN lp G) (λ_ _=>obs (by kernel_rfl)) λc a0 H n k=>by kernel_rfl
def V5:Ta:=λlp G c k=>(.s .n (.s .n (.j (λR=>Hr lp G c k) (.s .n (.b (.l _ (Kv lp G c k) (λR H n=>(rg R q0,rg R q1,rg R q12,rg R q13,H,n)) λih6=>.n))) .n)))
theorem V4{lp:Fa}(hL:D8 lp)(G:AV):Ld G 26 (QS (FZ lp G)):=
 .mk Ia <| yI hL (an:=V5 lp G) (λ_ _=>obs (by kernel_rfl)) λc a0 a1 H n k=>by kernel_rfl
def Hz:Ta:=λlp G c k=>(.s .n (.s .n (.j (λR=>Cm lp G c k) (.s .n (.b (.l _ (ED lp G c k) (λR H n=>(rg R q1,rg R q2,rg R q15,rg R q16,rg R q17,H,n)) λih6=>.n))) .n)))
theorem IB{lp:Fa}(hL:D8 lp)(G:AV):Ld G 27 (ar3 (Bg lp G)):=
 .mk DI <| sf3 hL (an:=Hz lp G) (λ_ _=>obs (by kernel_rfl)) λc a0 a1 a2 H n k=>by kernel_rfl
def xM:Ta:=λlp G c k=>.n
theorem vI{lp:Fa}(hL:D8 lp)(G:AV):Ld G 28 (QS (Qm lp G)):=
 .mk Ux <| yI hL (an:=xM lp G) (λ_ _=>obs (by kernel_rfl)) λc a0 a1 H n k=>by kernel_rfl
def yS:Ta:=λlp G c k=>(.b (.l _ (Xb lp G c k) (λR H n=>(rg R q0,H,n)) λih1=>(.s .n (.b (.s .n (.b (.s .n (.c .n (.s .n (.c (.s .n (.j (λR=>FU lp G c k ih1 (rg R q0) (rg R q3)) .n .n)) .n))))))))))
theorem AAP{lp:Fa}(hL:D8 lp)(G:AV):Ld G 29 (Gw (SH lp G)):=
 .mk VI <| YG hL (an:=yS lp G) (λ_ _=>obs (by kernel_rfl)) λc a0 H n k=>by kernel_rfl
def yQ:Ta:=λlp G c k=>(.s .n (.s .n (.s .n (.s .n (.j (λR=>D7 lp G c k (rg R q0) (rg R q2) (rg R q4)) (.b (.s .n (.c .n (.s .n (.c .n (.s .n (.c .n (.s .n (.b (.l _ (WL lp G c k) (λR H n=>(rg R q0,rg R q2,rg R q4,rg R q34,rg R q35,H,n)) λih81=>.n)))))))))) .n)))))
theorem yY{lp:Fa}(hL:D8 lp)(G:AV):Ld G 30 (Gw (Rx lp G)):=
 .mk VZ <| YG hL (an:=yQ lp G) (λ_ _=>obs (by kernel_rfl)) λc a0 H n k=>by kernel_rfl
def AAj:Ta:=λlp G c k=>(.s .n (.s .n (.j (λR=>TL lp G c k) (.s .n (.b (.l _ (Xe lp G c k) (λR H n=>(rg R q1,rg R q29,rg R q30,rg R q31,H,n)) λih23=>.n))) .n)))
theorem ABY{lp:Fa}(hL:D8 lp)(G:AV):Ld G 31 (QS (UO lp G)):=
 .mk XD <| yI hL (an:=AAj lp G) (λ_ _=>obs (by kernel_rfl)) λc a0 a1 H n k=>by kernel_rfl
def o8:Ta:=λlp G c k=>.n
theorem oH{lp:Fa}(hL:D8 lp)(G:AV):Ld G 32 (QS (OE lp G)):=
 .mk Q9 <| yI hL (an:=o8 lp G) (λ_ _=>obs (by kernel_rfl)) λc a0 a1 H n k=>by kernel_rfl
def wF:Ta:=λlp G c k=>(.s .n (.s .n (.s .n (.s .n (.j (λR=>BG lp G c k (rg R q4) (rg R q7)) (.s .n (.b (.j (λR=>Dn lp G c k (rg R q2) (rg R q4) (rg R q5) (rg R q6) (rg R q7) (rg R q22) (rg R q28)) .n (.c .n (.s .n (.c .n (.s .n (.c .n (.s .n (.c (.s .n (.s .n (.s .n (.b (.l _ (Pg lp G c k) (λR H n=>(rg R q4,rg R q5,rg R q6,rg R q7,rg R q8,H,n)) λih42=>.n))))) (.s .n (.c (.s .n (.s .n (.s .n (.b (.l _ (PO lp G c k) (λR H n=>(rg R q4,rg R q5,rg R q6,rg R q7,rg R q9,H,n)) λih62=>.n))))) (.s .n (.c .n (.s .n (.c .n (.j (λR=>EW lp G c k (rg R q2) (rg R q4) (rg R q5) (rg R q6) (rg R q7) (rg R q22) (rg R AaT)) .n (.c .n (.j (λR=>EX lp G c k (rg R q2) (rg R q4) (rg R q5) (rg R q6) (rg R q7) (rg R q22) (rg R Aaj)) .n (.c .n (.s .n (.c .n (.j (λR=>FY lp G c k (rg R q2) (rg R q4) (rg R q5) (rg R q6) (rg R q7) (rg R AZs)) .n .n))))))))))))))))))))))) .n)))))
theorem xg{lp:Fa}(hL:D8 lp)(G:AV):Ld G 33 (QS (Qb lp G)):=
 .mk Ud <| yI hL (an:=wF lp G) (λ_ _=>obs (by kernel_rfl)) λc a0 a1 H n k=>by kernel_rfl
def AMY:Ta:=λlp G c k=>.n
theorem AFX{lp:Fa}(hL:D8 lp)(G:AV):Ld G 34 (Gw (Zr lp G)):=
 .mk gI <| YG hL (an:=AMY lp G) (λ_ _=>obs (by kernel_rfl)) λc a0 H n k=>by kernel_rfl
def AAs:Ta:=λlp G c k=>(.s .n (.s .n (.s (.s .n (.b (.s .n (.c .n (.s .n (.c .n (.s .n (.c (.s .n (.j (λR=>KD lp G c k (rg R q6)) .n .n)) .n)))))))) .n)))
theorem Gz{lp:Fa}(hL:D8 lp)(G:AV):Ld G 37 (QS (BQ lp G)):=
 .mk Cj <| yI hL (an:=AAs lp G) (λ_ _=>obs (by kernel_rfl)) λc a0 a1 H n k=>by kernel_rfl
def oW:Ta:=λlp G c k=>(.s .n (.b (.l _ (Uy lp G c k) (λR H n=>(rg R q0,rg R q6,rg R q7,rg R q8,H,n)) λih2=>(.s .n (.s .n (.j (λR=>IL lp G c k ih2 (rg R q0) (rg R q6) (rg R q7) (rg R q8)) .n .n))))))
theorem pF{lp:Fa}(hL:D8 lp)(G:AV):Ld G 39 (QS (OL lp G)):=
 .mk Qx <| yI hL (an:=oW lp G) (λ_ _=>obs (by kernel_rfl)) λc a0 a1 H n k=>by kernel_rfl
def pR:Ta:=λlp G c k=>.n
theorem pW{lp:Fa}(hL:D8 lp)(G:AV):Ld G 40 (QS (N7 lp G)):=
 .mk RX <| yI hL (an:=pR lp G) (λ_ _=>obs (by kernel_rfl)) λc a0 a1 H n k=>by kernel_rfl
def qN:Ta:=λlp G c k=>.n
theorem oG{lp:Fa}(hL:D8 lp)(G:AV):Ld G 41 (QS (OC lp G)):=
 .mk Q8 <| yI hL (an:=qN lp G) (λ_ _=>obs (by kernel_rfl)) λc a0 a1 H n k=>by kernel_rfl
def uJ:Ta:=λlp G c k=>(.s .n (.s .n (.j (λR=>Iy lp G c k (rg R q2) (rg R q3)) .n .n)))
theorem tu{lp:Fa}(hL:D8 lp)(G:AV):Ld G 42 (Gw (PZ lp G)):=
 .mk TQ <| YG hL (an:=uJ lp G) (λ_ _=>obs (by kernel_rfl)) λc a0 H n k=>by kernel_rfl
def qX:Ta:=λlp G c k=>.n
theorem pU{lp:Fa}(hL:D8 lp)(G:AV):Ld G 43 (QS (OA lp G)):=
 .mk RZ <| yI hL (an:=qX lp G) (λ_ _=>obs (by kernel_rfl)) λc a0 a1 H n k=>by kernel_rfl
def vk:Ta:=λlp G c k=>(.s .n (.j (λR=>Rl lp G c k) (.s .n (.b (.l _ (WS lp G c k) (λR H n=>(rg R q0,rg R q7,rg R q8,rg R q9,H,n)) λih3=>.n))) .n))
theorem xU{lp:Fa}(hL:D8 lp)(G:AV):Ld G 44 (QS (Qu lp G)):=
 .mk Uo <| yI hL (an:=vk lp G) (λ_ _=>obs (by kernel_rfl)) λc a0 a1 H n k=>by kernel_rfl
def jm:Ta:=λlp G c k=>(.s .n (.s .n (.s .n (.s .n (.s .n (.s .n (.s .n (.j (λR=>Ii lp G c k (rg R q0) (rg R q2) (rg R q4)) (.b (.l _ (RP lp G c k) (λR H n=>(rg R q0,rg R q2,rg R q4,H,n)) λih31=>(.s .n (.b (.j (λR=>Fe lp G c k ih31 (rg R q0) (rg R q2) (rg R q4)) .n .n))))) .n))))))))
theorem ji{lp:Fa}(hL:D8 lp)(G:AV):Ld G 45 (Gw (LQ lp G)):=
 .mk Ph <| YG hL (an:=jm lp G) (λ_ _=>obs (by kernel_rfl)) λc a0 H n k=>by kernel_rfl
def qw:Ta:=λlp G c k=>.n
theorem ny{lp:Fa}(hL:D8 lp)(G:AV):Ld G 46 (QS (OG lp G)):=
 .mk RG <| yI hL (an:=qw lp G) (λ_ _=>obs (by kernel_rfl)) λc a0 a1 H n k=>by kernel_rfl
def Jj:Ta:=λlp G c k=>(.s .n (.s .n (.j (λR=>DZ lp G c k) (.s .n (.b (.l _ (EY lp G c k) (λR H n=>(rg R q1,rg R q2,rg R q15,rg R q16,rg R q17,H,n)) λih6=>.n))) .n)))
theorem Jl{lp:Fa}(hL:D8 lp)(G:AV):Ld G 47 (ar3 (CX lp G)):=
 .mk Dk <| sf3 hL (an:=Jj lp G) (λ_ _=>obs (by kernel_rfl)) λc a0 a1 a2 H n k=>by kernel_rfl
def ABg:Ta:=λlp G c k=>.n
theorem ABV{lp:Fa}(hL:D8 lp)(G:AV):Ld G 48 (QS (UH lp G)):=
 .mk XL <| yI hL (an:=ABg lp G) (λ_ _=>obs (by kernel_rfl)) λc a0 a1 H n k=>by kernel_rfl
def zf:Ta:=λlp G c k=>(.s .n (.b (.l _ (YD lp G c k) (λR H n=>(rg R q0,rg R q4,rg R q5,H,n)) λih1=>(.s .n (.s .n (.s (.b (.s .n (.j (λR=>Jh lp G c k ih1 (rg R q0) (rg R q4) (rg R q5)) .n .n))) .n))))))
theorem AAE{lp:Fa}(hL:D8 lp)(G:AV):Ld G 49 (QS (SS lp G)):=
 .mk Vf <| yI hL (an:=zf lp G) (λ_ _=>obs (by kernel_rfl)) λc a0 a1 H n k=>by kernel_rfl
def oh:Ta:=λlp G c k=>.n
theorem sQ{lp:Fa}(hL:D8 lp)(G:AV):Ld G 50 (QS (OJ lp G)):=
 .mk RH <| yI hL (an:=oh lp G) (λ_ _=>obs (by kernel_rfl)) λc a0 a1 H n k=>by kernel_rfl
def oZ:Ta:=λlp G c k=>.n
theorem oJ{lp:Fa}(hL:D8 lp)(G:AV):Ld G 51 (QS (OU lp G)):=
 .mk Rn <| yI hL (an:=oZ lp G) (λ_ _=>obs (by kernel_rfl)) λc a0 a1 H n k=>by kernel_rfl
def AFz:Ta:=λlp G c k=>.n
theorem AGm{lp:Fa}(hL:D8 lp)(G:AV):Ld G 52 (Gw (bH lp G)):=
 .mk kL <| YG hL (an:=AFz lp G) (λ_ _=>obs (by kernel_rfl)) λc a0 H n k=>by kernel_rfl
def AAa:Ta:=λlp G c k=>(.s .n (.s .n (.j (λR=>O0 lp G c k (rg R q0) (rg R q5)) (.b (.l _ (X5 lp G c k) (λR H n=>(rg R q0,rg R q1,rg R q5,H,n)) λih13=>.n)) .n)))
theorem ABS{lp:Fa}(hL:D8 lp)(G:AV):Ld G 53 (QS (Ua lp G)):=
 .mk Wp <| yI hL (an:=AAa lp G) (λ_ _=>obs (by kernel_rfl)) λc a0 a1 H n k=>by kernel_rfl
def AGD:Ta:=λlp G c k=>.n
theorem AGs{lp:Fa}(hL:D8 lp)(G:AV):Ld G 54 (Gw (bQ lp G)):=
 .mk jT <| YG hL (an:=AGD lp G) (λ_ _=>obs (by kernel_rfl)) λc a0 H n k=>by kernel_rfl
def AGo:Ta:=λlp G c k=>.n
theorem AGa{lp:Fa}(hL:D8 lp)(G:AV):Ld G 55 (Gw (bg lp G)):=
 .mk jO <| YG hL (an:=AGo lp G) (λ_ _=>obs (by kernel_rfl)) λc a0 H n k=>by kernel_rfl
def AGZ:Ta:=λlp G c k=>(.s .n (.s (.s .n (.b (.j (λR=>Bh lp G c k (rg R q4)) .n .n))) .n))
theorem AHL{lp:Fa}(hL:D8 lp)(G:AV):Ld G 56 (Gw (aO lp G)):=
 .mk iW <| YG hL (an:=AGZ lp G) (λ_ _=>obs (by kernel_rfl)) λc a0 H n k=>by kernel_rfl
def AFt:Ta:=λlp G c k=>.n
theorem AGp{lp:Fa}(hL:D8 lp)(G:AV):Ld G 57 (Gw (aX lp G)):=
 .mk kJ <| YG hL (an:=AFt lp G) (λ_ _=>obs (by kernel_rfl)) λc a0 H n k=>by kernel_rfl
def AEk:Ta:=λlp G c k=>(.s .n (.s .n (.j (λR=>Yc lp G c k (rg R q4)) (.s .n (.b (.l _ (fF lp G c k) (λR H n=>(rg R q4,rg R q8,rg R q9,rg R q10,H,n)) λih4=>.n))) .n)))
theorem AEf{lp:Fa}(hL:D8 lp)(G:AV):Ld G 58 (Gw (ZO lp G)):=
 .mk dN <| YG hL (an:=AEk lp G) (λ_ _=>obs (by kernel_rfl)) λc a0 H n k=>by kernel_rfl
def qU:Ta:=λlp G c k=>.n
theorem Xo{lp:Fa}(hL:D8 lp)(G:AV):Ld G 59 (ar3 (Fv lp G)):=
 .mk Jg <| sf3 hL (an:=qU lp G) (λ_ _=>obs (by kernel_rfl)) λc a0 a1 a2 H n k=>by kernel_rfl
def ABb:Ta:=λlp G c k=>.n
theorem ABf{lp:Fa}(hL:D8 lp)(G:AV):Ld G 60 (Gw (UZ lp G)):=
 .mk XF <| YG hL (an:=ABb lp G) (λ_ _=>obs (by kernel_rfl)) λc a0 H n k=>by kernel_rfl
def ABP:Ta:=λlp G c k=>.n
theorem AAx{lp:Fa}(hL:D8 lp)(G:AV):Ld G 63 (QS (UJ lp G)):=
 .mk Wu <| yI hL (an:=ABP lp G) (λ_ _=>obs (by kernel_rfl)) λc a0 a1 H n k=>by kernel_rfl
def qJ:Ta:=λlp G c k=>(.s .n (.s .n (.j (λR=>IJ lp G c k (rg R q2) (rg R q3)) .n .n)))
theorem sH{lp:Fa}(hL:D8 lp)(G:AV):Ld G 66 (Gw (OI lp G)):=
 .mk RJ <| YG hL (an:=qJ lp G) (λ_ _=>obs (by kernel_rfl)) λc a0 H n k=>by kernel_rfl
def qP:Ta:=λlp G c k=>.n
theorem pJ{lp:Fa}(hL:D8 lp)(G:AV):Ld G 67 (Gw (Nw lp G)):=
 .mk Ro <| YG hL (an:=qP lp G) (λ_ _=>obs (by kernel_rfl)) λc a0 H n k=>by kernel_rfl
def nT:Ta:=λlp G c k=>(.s .n (.s .n (.s .n (.s .n (.j (λR=>Jr lp G c k (rg R q3) (rg R q22)) (.b (.l _ (UF lp G c k) (λR H n=>(rg R q0,rg R q3,rg R q22,H,n)) λih6=>.n)) .n)))))
theorem mY{lp:Fa}(hL:D8 lp)(G:AV):Ld G 68 (Gw (Ls lp G)):=
 .mk QN <| YG hL (an:=nT lp G) (λ_ _=>obs (by kernel_rfl)) λc a0 H n k=>by kernel_rfl
def Jk:Ta:=λlp G c k=>(.s .n (.s .n (.j (λR=>Dc lp G c k) (.s .n (.b (.l _ (EZ lp G c k) (λR H n=>(rg R q1,rg R q2,rg R q15,rg R q16,rg R q17,H,n)) λih6=>.n))) .n)))
theorem Jp{lp:Fa}(hL:D8 lp)(G:AV):Ld G 69 (ar3 (CZ lp G)):=
 .mk Dj <| sf3 hL (an:=Jk lp G) (λ_ _=>obs (by kernel_rfl)) λc a0 a1 a2 H n k=>by kernel_rfl
def ABT:Ta:=λlp G c k=>.n
theorem AAc{lp:Fa}(hL:D8 lp)(G:AV):Ld G 70 (QS (UY lp G)):=
 .mk W9 <| yI hL (an:=ABT lp G) (λ_ _=>obs (by kernel_rfl)) λc a0 a1 H n k=>by kernel_rfl
def U5:Ta:=λlp G c k=>.n
theorem VA{lp:Fa}(hL:D8 lp)(G:AV):Ld G 71 (QS (E5 lp G)):=
 .mk Ho <| yI hL (an:=U5 lp G) (λ_ _=>obs (by kernel_rfl)) λc a0 a1 H n k=>by kernel_rfl
def U6:Ta:=λlp G c k=>.n
theorem VB{lp:Fa}(hL:D8 lp)(G:AV):Ld G 72 (QS (FB lp G)):=
 .mk Hl <| yI hL (an:=U6 lp G) (λ_ _=>obs (by kernel_rfl)) λc a0 a1 H n k=>by kernel_rfl
def AAe:Ta:=λlp G c k=>.n
theorem Bz{lp:Fa}(hL:D8 lp)(G:AV):Ld G 74 (Gw (AZ lp G)):=
 .mk Af <| YG hL (an:=AAe lp G) (λ_ _=>obs (by kernel_rfl)) λc a0 H n k=>by kernel_rfl
def AJ1:Ta:=λlp G c k=>.n
theorem AKB{lp:Fa}(hL:D8 lp)(G:AV):Ld G 77 (ar0 (sZ lp G)):=
 .mk xX <| sf0 hL (an:=AJ1 lp G) (λ_ _=>obs (by kernel_rfl)) λc H n k=>by kernel_rfl
def AI6:Ta:=λlp G c k=>.n
theorem AHW{lp:Fa}(hL:D8 lp)(G:AV):Ld G 78 (ar0 (jU lp G)):=
 .mk rU <| sf0 hL (an:=AI6 lp G) (λ_ _=>obs (by kernel_rfl)) λc H n k=>by kernel_rfl
def oL:Ta:=λlp G c k=>(.s .n (.j (λR=>IK lp G c k (rg R q1)) .n .n))
theorem qZ{lp:Fa}(hL:D8 lp)(G:AV):Ld G 79 (Gw (Ny lp G)):=
 .mk Q5 <| YG hL (an:=oL lp G) (λ_ _=>obs (by kernel_rfl)) λc a0 H n k=>by kernel_rfl
def oC:Ta:=λlp G c k=>(.s .n (.s .n (.j (λR=>EG lp G c k (rg R q0) (rg R q2) (rg R q3)) .n .n)))
theorem qW{lp:Fa}(hL:D8 lp)(G:AV):Ld G 80 (Gw (Nz lp G)):=
 .mk RV <| YG hL (an:=oC lp G) (λ_ _=>obs (by kernel_rfl)) λc a0 H n k=>by kernel_rfl
def qV:Ta:=λlp G c k=>.n
theorem qj{lp:Fa}(hL:D8 lp)(G:AV):Ld G 83 (QS (OV lp G)):=
 .mk RI <| yI hL (an:=qV lp G) (λ_ _=>obs (by kernel_rfl)) λc a0 a1 H n k=>by kernel_rfl
def ACT:Ta:=λlp G c k=>.n
theorem ACU{lp:Fa}(hL:D8 lp)(G:AV):Ld G 84 (QS (Vj lp G)):=
 .mk YU <| yI hL (an:=ACT lp G) (λ_ _=>obs (by kernel_rfl)) λc a0 a1 H n k=>by kernel_rfl
def AIt:Ta:=λlp G c k=>(.s .n (.s .n (.j (λR=>XT lp G c k (rg R q3)) (.s .n (.b (.l _ (sU lp G c k) (λR H n=>(rg R q3,rg R q6,rg R q7,rg R q8,H,n)) λih4=>.n))) .n)))
theorem AHx{lp:Fa}(hL:D8 lp)(G:AV):Ld G 85 (Gw (iU lp G)):=
 .mk rH <| YG hL (an:=AIt lp G) (λ_ _=>obs (by kernel_rfl)) λc a0 H n k=>by kernel_rfl
def AA0:Ta:=λlp G c k=>.n
theorem ABU{lp:Fa}(hL:D8 lp)(G:AV):Ld G 86 (Gw (UW lp G)):=
 .mk WW <| YG hL (an:=AA0 lp G) (λ_ _=>obs (by kernel_rfl)) λc a0 H n k=>by kernel_rfl
def kT:Ta:=λlp G c k=>.n
theorem je{lp:Fa}(hL:D8 lp)(G:AV):Ld G 87 (Gw (Lc lp G)):=
 .mk Ej <| YG hL (an:=kT lp G) (λ_ _=>obs (by kernel_rfl)) λc a0 H n k=>by kernel_rfl
def qB:Ta:=λlp G c k=>.n
theorem og{lp:Fa}(hL:D8 lp)(G:AV):Ld G 88 (Gw (OB lp G)):=
 .mk Rf <| YG hL (an:=qB lp G) (λ_ _=>obs (by kernel_rfl)) λc a0 H n k=>by kernel_rfl
def jc:Ta:=λlp G c k=>(.s .n (.s .n (.s .n (.s .n (.s .n (.s .n (.j (λR=>Ef lp G c k (rg R q2) (rg R q3) (rg R q37)) .n .n)))))))
theorem kV{lp:Fa}(hL:D8 lp)(G:AV):Ld G 89 (Gw (LU lp G)):=
 .mk O1 <| YG hL (an:=jc lp G) (λ_ _=>obs (by kernel_rfl)) λc a0 H n k=>by kernel_rfl
def nV:Ta:=λlp G c k=>(.s .n (.s .n (.s (.s .n (.c (.j (λR=>Gj lp G c k) .n .n) .n)) (.j (λR=>Gi lp G c k (rg R q0) (rg R q1)) .n .n))))
theorem nK{lp:Fa}(hL:D8 lp)(G:AV):Ld G 90 (QS (Mc lp G)):=
 .mk QT <| yI hL (an:=nV lp G) (λ_ _=>obs (by kernel_rfl)) λc a0 a1 H n k=>by kernel_rfl
def YC:Ta:=λlp G c k=>(.s .n (.s (.s .n (.c (.s .n (.s .n (.s .n (.j (λR=>FP lp G c k (rg R q0) (rg R q5) (rg R q6)) .n .n)))) .n)) .n))
theorem Xc{lp:Fa}(hL:D8 lp)(G:AV):Ld G 91 (QS (Gv lp G)):=
 .mk JR <| yI hL (an:=YC lp G) (λ_ _=>obs (by kernel_rfl)) λc a0 a1 H n k=>by kernel_rfl
def jE:Ta:=λlp G c k=>(.s .n (.s .n (.j (λR=>NV lp G c k (rg R q8) (rg R q9)) (.b (.l _ (TJ lp G c k) (λR H n=>(rg R q0,rg R q1,rg R q2,rg R q3,rg R q8,rg R q9,H,n)) λih8=>.n)) .n)))
theorem kN{lp:Fa}(hL:D8 lp)(G:AV):Ld G 92 (ar4 (LM lp G)):=
 .mk O4 <| sf4 hL (an:=jE lp G) (λ_ _=>obs (by kernel_rfl)) λc a0 a1 a2 a3 H n k=>by kernel_rfl
def jS:Ta:=λlp G c k=>.n
theorem jH{lp:Fa}(hL:D8 lp)(G:AV):Ld G 93 (Gw (LW lp G)):=
 .mk PY <| YG hL (an:=jS lp G) (λ_ _=>obs (by kernel_rfl)) λc a0 H n k=>by kernel_rfl
def dD:Ta:=λlp G c k=>(.s .n (.s .n (.s .n (.j (λR=>FV lp G c k (rg R q2) (rg R q4)) .n .n))))
theorem eX{lp:Fa}(hL:D8 lp)(G:AV):Ld G 94 (Gw (Jv lp G)):=
 .mk NU <| YG hL (an:=dD lp G) (λ_ _=>obs (by kernel_rfl)) λc a0 H n k=>by kernel_rfl
def aH:Ta:=λlp G c k=>.n
theorem aG{lp:Fa}(hL:D8 lp)(G:AV):Ld G 95 (Gw (JE lp G)):=
 .mk Ll <| YG hL (an:=aH lp G) (λ_ _=>obs (by kernel_rfl)) λc a0 H n k=>by kernel_rfl
def Xu:Ta:=λlp G c k=>.n
theorem X6{lp:Fa}(hL:D8 lp)(G:AV):Ld G 96 (Gw (Gp lp G)):=
 .mk Ja <| YG hL (an:=Xu lp G) (λ_ _=>obs (by kernel_rfl)) λc a0 H n k=>by kernel_rfl
def VO:Ta:=λlp G c k=>(.s .n (.j (λR=>Ei lp G c k (rg R q0) (rg R q1) (rg R q4)) (.b (.l _ (J7 lp G c k) (λR H n=>(rg R q0,rg R q1,rg R q4,H,n)) λih51=>.n)) (.s .n (.j (λR=>EC lp G c k (rg R q0) (rg R q4) (rg R q12)) .n (.j (λR=>EF lp G c k (rg R q0) (rg R q4) (rg R q12)) .n .n)))))
theorem VH{lp:Fa}(hL:D8 lp)(G:AV):Ld G 97 (QS (FQ lp G)):=
 .mk IE <| yI hL (an:=VO lp G) (λ_ _=>obs (by kernel_rfl)) λc a0 a1 H n k=>by kernel_rfl
def Ze:Ta:=λlp G c k=>.n
theorem Zh{lp:Fa}(hL:D8 lp)(G:AV):Ld G 99 (Gw (Ij lp G)):=
 .mk Kr <| YG hL (an:=Ze lp G) (λ_ _=>obs (by kernel_rfl)) λc a0 H n k=>by kernel_rfl
def mF:Ta:=λlp G c k=>(.s .n (.s .n (.j (λR=>Om lp G c k (rg R q6) (rg R q7)) (.b (.l _ (TW lp G c k) (λR H n=>(rg R q0,rg R q1,rg R q2,rg R q6,rg R q7,H,n)) λih8=>.n)) .n)))
theorem nO{lp:Fa}(hL:D8 lp)(G:AV):Ld G 100 (ar3 (MQ lp G)):=
 .mk QG <| sf3 hL (an:=mF lp G) (λ_ _=>obs (by kernel_rfl)) λc a0 a1 a2 H n k=>by kernel_rfl
def YO:Ta:=λlp G c k=>.n
theorem YP{lp:Fa}(hL:D8 lp)(G:AV):Ld G 101 (Gw (Hf lp G)):=
 .mk Jz <| YG hL (an:=YO lp G) (λ_ _=>obs (by kernel_rfl)) λc a0 H n k=>by kernel_rfl
def mM:Ta:=λlp G c k=>(.s .n (.s .n (.j (λR=>JD lp G c k (rg R q0) (rg R q2) (rg R q63)) (.s .n (.b (.l _ (TI lp G c k) (λR H n=>(rg R q0,rg R q2,rg R q3,rg R q16,rg R q17,rg R q18,rg R q63,H,n)) λih37=>.n))) (.s .n (.j (λR=>NY lp G c k (rg R q2) (rg R q6) (rg R q63)) (.b (.l _ (Sv lp G c k) (λR H n=>(rg R q0,rg R q2,rg R q6,rg R q63,H,n)) λih17=>(.s .n (.b (.s .n (.s .n (.j (λR=>Gh lp G c k ih17 (rg R q0) (rg R q2) (rg R q6) (rg R q7) (rg R q8) (rg R q63)) .n .n))))))) .n)))))
theorem nJ{lp:Fa}(hL:D8 lp)(G:AV):Ld G 102 (Gw (MW lp G)):=
 .mk QI <| YG hL (an:=mM lp G) (λ_ _=>obs (by kernel_rfl)) λc a0 H n k=>by kernel_rfl
def X9:Ta:=λlp G c k=>.n
theorem Xp{lp:Fa}(hL:D8 lp)(G:AV):Ld G 103 (Gw (Gn lp G)):=
 .mk Jd <| YG hL (an:=X9 lp G) (λ_ _=>obs (by kernel_rfl)) λc a0 H n k=>by kernel_rfl
def vT:Ta:=λlp G c k=>(.s .n (.j (λR=>Je lp G c k (rg R q0) (rg R q2)) .n (.j (λR=>JY lp G c k (rg R q0) (rg R q2)) .n (.j (λR=>Ji lp G c k (rg R q0) (rg R q2)) .n .n))))
theorem wJ{lp:Fa}(hL:D8 lp)(G:AV):Ld G 104 (Gw (Qa lp G)):=
 .mk Ur <| YG hL (an:=vT lp G) (λ_ _=>obs (by kernel_rfl)) λc a0 H n k=>by kernel_rfl
def Xg:Ta:=λlp G c k=>.n
theorem X7{lp:Fa}(hL:D8 lp)(G:AV):Ld G 105 (Gw (Gm lp G)):=
 .mk JV <| YG hL (an:=Xg lp G) (λ_ _=>obs (by kernel_rfl)) λc a0 H n k=>by kernel_rfl
def mG:Ta:=λlp G c k=>(.s .n (.s .n (.b (.l _ (Tf lp G c k) (λR H n=>(rg R q0,rg R q2,rg R q3,H,n)) λih5=>.n))))
theorem nN{lp:Fa}(hL:D8 lp)(G:AV):Ld G 108 (Gw (MV lp G)):=
 .mk QL <| YG hL (an:=mG lp G) (λ_ _=>obs (by kernel_rfl)) λc a0 H n k=>by kernel_rfl
def sV:Ta:=λlp G c k=>(.s .n (.s .n (.s .n (.j (λR=>BI lp G c k (rg R q2) (rg R q4)) .n .n))))
theorem o9{lp:Fa}(hL:D8 lp)(G:AV):Ld G 111 (Gw (OO lp G)):=
 .mk RF <| YG hL (an:=sV lp G) (λ_ _=>obs (by kernel_rfl)) λc a0 H n k=>by kernel_rfl
def kQ:Ta:=λlp G c k=>.n
theorem kU{lp:Fa}(hL:D8 lp)(G:AV):Ld G 112 (ar3 (LG lp G)):=
 .mk PN <| sf3 hL (an:=kQ lp G) (λ_ _=>obs (by kernel_rfl)) λc a0 a1 a2 H n k=>by kernel_rfl
def rD:Ta:=λlp G c k=>(.s .n (.s .n (.s .n (.j (λR=>KP lp G c k (rg R q3)) (.b (.l _ (U1 lp G c k) (λR H n=>(rg R q0,rg R q3,H,n)) λih4=>(.s .n (.b (.j (λR=>G7 lp G c k ih4 (rg R q0) (rg R q3)) .n .n))))) .n))))
theorem qL{lp:Fa}(hL:D8 lp)(G:AV):Ld G 113 (Gw (OW lp G)):=
 .mk Qy <| YG hL (an:=rD lp G) (λ_ _=>obs (by kernel_rfl)) λc a0 H n k=>by kernel_rfl
def AAI:Ta:=λlp G c k=>.n
theorem AAL{lp:Fa}(hL:D8 lp)(G:AV):Ld G 114 (Gw (Ry lp G)):=
 .mk Vh <| YG hL (an:=AAI lp G) (λ_ _=>obs (by kernel_rfl)) λc a0 H n k=>by kernel_rfl
end Go.PQ
