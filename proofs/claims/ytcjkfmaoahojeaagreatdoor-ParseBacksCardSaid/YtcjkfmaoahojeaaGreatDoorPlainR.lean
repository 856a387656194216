/- Part of a proof; nothing is assumed. -/
import Derived.Test.YtcjkfmaoahojeaaGreatDoorPlain
import Derived.Test.YtcjkfmaoahojeaaGreatDoorCode
import Derived.Test.YtcjkfmaoahojeaaGreatDoorEngE
set_option linter.unusedVariables false
set_option linter.unusedSimpArgs false
noncomputable section
namespace Go.PQ
open Go.Eng
set_option maxRecDepth 100000
abbrev Ta:=Fa->AV->BP->KV->An
inductive Le(G:AV)(n:Nat)(s:SF):Prop where
 |mk {af:AF} (h:T.get F n=some af) (o:AJx G af s):Le G n s
def fM:Ta:=λlp G c k=>.n
theorem iJ{lp:Fa}(hL:D8 lp)(G:AV):Le G 3 (Gx (KR lp G)):=
 .mk Ol <| YG hL (an:=fM lp G) (λ_ _=>obs (by kernel_rfl)) λc a0 H n k=>by kernel_rfl
def yj:Ta:=λlp G c k=>.n
theorem AAR{lp:Fa}(hL:D8 lp)(G:AV):Le G 5 (ar0 (Si lp G)):=
 .mk Vr <| sf0 hL (an:=yj lp G) (λ_ _=>obs (by kernel_rfl)) λc H n k=>by kernel_rfl
def nJ:Ta:=λlp G c k=>(.s .n (.s .n (.j (λR=>Nh lp G c k) (.s .n (.b (.l _ (Sz lp G c k) (λR H n=>(rg R q26,rg R q27,rg R q28,H,n)) λih24=>.n))) .n)))
theorem mQ{lp:Fa}(hL:D8 lp)(G:AV):Le G 6 (Gx (NK lp G)):=
 .mk QX <| YG hL (an:=nJ lp G) (λ_ _=>obs (by kernel_rfl)) λc a0 H n k=>by kernel_rfl
def vN:Ta:=λlp G c k=>(.s .n (.s .n (.j (λR=>GL lp G c k (rg R q1) (rg R q2) (rg R q3)) .n (.s .n (.s .n (.j (λR=>Ky lp G c k (rg R q2) (rg R q3)) (.s .n (.b (.l _ (Vq lp G c k) (λR H n=>(rg R q2,rg R q3,rg R q4,rg R q27,rg R q28,rg R q29,H,n)) λih22=>.n))) .n))))))
theorem xk{lp:Fa}(hL:D8 lp)(G:AV):Le G 7 (Gx (Qo lp G)):=
 .mk Uu <| YG hL (an:=vN lp G) (λ_ _=>obs (by kernel_rfl)) λc a0 H n k=>by kernel_rfl
def zV:Ta:=λlp G c k=>(.s .n (.s .n (.s .n (.j (λR=>IY lp G c k (rg R q1) (rg R q3)) .n (.s .n (.j (λR=>Nz lp G c k (rg R q1) (rg R q3)) (.s .n (.b (.l _ (WO lp G c k) (λR H n=>(rg R q1,rg R q3,rg R q21,rg R q22,rg R q23,H,n)) λih34=>.n))) (.j (λR=>L9 lp G c k (rg R q3)) (.s .n (.b (.l _ (WM lp G c k) (λR H n=>(rg R q3,rg R q39,rg R q40,rg R q41,H,n)) λih16=>.n))) .n)))))))
theorem AAG{lp:Fa}(hL:D8 lp)(G:AV):Le G 8 (Gx (SX lp G)):=
 .mk VO <| YG hL (an:=zV lp G) (λ_ _=>obs (by kernel_rfl)) λc a0 H n k=>by kernel_rfl
def ADK:Ta:=λlp G c k=>.n
theorem AD3{lp:Fa}(hL:D8 lp)(G:AV):Le G 9 (Gx (XR lp G)):=
 .mk Z7 <| YG hL (an:=ADK lp G) (λ_ _=>obs (by kernel_rfl)) λc a0 H n k=>by kernel_rfl
def yQ:Ta:=λlp G c k=>.n
theorem zH{lp:Fa}(hL:D8 lp)(G:AV):Le G 10 (QH (Rz lp G)):=
 .mk VG <| yK hL (an:=yQ lp G) (λ_ _=>obs (by kernel_rfl)) λc a0 a1 H n k=>by kernel_rfl
def AKv:Ta:=λlp G c k=>(.s .n (.s .n (.s .n (.s .n (.b (.l _ (sV lp G c k) (λR H n=>(rg R q3,rg R q4,rg R q5,H,n)) λih12=>.n))))))
theorem AJs{lp:Fa}(hL:D8 lp)(G:AV):Le G 11 (Gx (tX lp G)):=
 .mk xJ <| YG hL (an:=AKv lp G) (λ_ _=>obs (by kernel_rfl)) λc a0 H n k=>by kernel_rfl
def ABS:Ta:=λlp G c k=>.n
theorem ABe{lp:Fa}(hL:D8 lp)(G:AV):Le G 12 (Gx (UO lp G)):=
 .mk Wh <| YG hL (an:=ABS lp G) (λ_ _=>obs (by kernel_rfl)) λc a0 H n k=>by kernel_rfl
def nN:Ta:=λlp G c k=>(.s .n (.s .n (.j (λR=>Oh lp G c k) (.s .n (.b (.l _ (Tf lp G c k) (λR H n=>(rg R q1,rg R q16,rg R q17,rg R q18,H,n)) λih8=>(.s .n (.s .n (.j (λR=>NU lp G c k ih8 (rg R q1) (rg R q16) (rg R q17) (rg R q18)) (.b (.s .n (.s .n (.s .n (.b (.l _ (S9 lp G c k ih8) (λR H n=>(rg R q1,rg R q16,rg R q17,rg R q18,rg R q56,rg R q57,rg R q58,H,n)) λih48=>.n)))))) .n)))))) .n)))
theorem mD{lp:Fa}(hL:D8 lp)(G:AV):Le G 13 (QH (NT lp G)):=
 .mk QT <| yK hL (an:=nN lp G) (λ_ _=>obs (by kernel_rfl)) λc a0 a1 H n k=>by kernel_rfl
def xQ:Ta:=λlp G c k=>.n
theorem vT{lp:Fa}(hL:D8 lp)(G:AV):Le G 14 (Gx (Qi lp G)):=
 .mk Us <| YG hL (an:=xQ lp G) (λ_ _=>obs (by kernel_rfl)) λc a0 H n k=>by kernel_rfl
def sU:Ta:=λlp G c k=>(.s .n (.s .n (.j (λR=>PZ lp G c k (rg R q3)) (.s .n (.b (.l _ (U0 lp G c k) (λR H n=>(rg R q3,rg R q7,rg R q8,rg R q9,H,n)) λih4=>.n))) .n)))
theorem pq{lp:Fa}(hL:D8 lp)(G:AV):Le G 15 (Gx (Nw lp G)):=
 .mk Q9 <| YG hL (an:=sU lp G) (λ_ _=>obs (by kernel_rfl)) λc a0 H n k=>by kernel_rfl
def vJ:Ta:=λlp G c k=>.n
theorem xw{lp:Fa}(hL:D8 lp)(G:AV):Le G 16 (Gx (Qh lp G)):=
 .mk Uf <| YG hL (an:=vJ lp G) (λ_ _=>obs (by kernel_rfl)) λc a0 H n k=>by kernel_rfl
def ABG:Ta:=λlp G c k=>(.s .n (.s .n (.j (λR=>Kv lp G c k (rg R q1) (rg R q2) (rg R q3)) .n .n)))
theorem ABF{lp:Fa}(hL:D8 lp)(G:AV):Le G 17 (Gx (UQ lp G)):=
 .mk Wx <| YG hL (an:=ABG lp G) (λ_ _=>obs (by kernel_rfl)) λc a0 H n k=>by kernel_rfl
def xW:Ta:=λlp G c k=>(.s .n (.s .n (.j (λR=>RZ lp G c k (rg R q5)) (.s .n (.b (.l _ (WJ lp G c k) (λR H n=>(rg R q1,rg R q5,rg R q13,rg R q14,rg R q15,H,n)) λih4=>(.s .n (.s .n (.s (.b (.s .n (.s .n (.s .n (.j (λR=>Ba lp G c k ih4 (rg R q1) (rg R q5) (rg R q9) (rg R q13) (rg R q14) (rg R q15)) (.s .n (.b (.s .n (.c .n (.s .n (.c .n (.j (λR=>GK lp G c k ih4 (rg R q1) (rg R q5) (rg R q7) (rg R q8) (rg R q9) (rg R q13) (rg R q14) (rg R q15) (rg R q24) (rg R q94)) .n (.c .n (.j (λR=>GI lp G c k ih4 (rg R q1) (rg R q5) (rg R q7) (rg R q8) (rg R q9) (rg R q13) (rg R q14) (rg R q15) (rg R Aah)) .n .n))))))))) .n))))) .n)))))) .n)))
theorem wM{lp:Fa}(hL:D8 lp)(G:AV):Le G 18 (QH (Ql lp G)):=
 .mk Uh <| yK hL (an:=xW lp G) (λ_ _=>obs (by kernel_rfl)) λc a0 a1 H n k=>by kernel_rfl
def ABB:Ta:=λlp G c k=>.n
theorem ABR{lp:Fa}(hL:D8 lp)(G:AV):Le G 20 (Gx (UY lp G)):=
 .mk XG <| YG hL (an:=ABB lp G) (λ_ _=>obs (by kernel_rfl)) λc a0 H n k=>by kernel_rfl
def xE:Ta:=λlp G c k=>(.s .n (.s .n (.j (λR=>G7 lp G c k (rg R q1) (rg R q3)) .n (.s .n (.j (λR=>MF lp G c k (rg R q1) (rg R q3) (rg R q4)) (.s .n (.b (.l _ (Vl lp G c k) (λR H n=>(rg R q1,rg R q3,rg R q4,rg R q10,rg R q11,rg R q12,H,n)) λih19=>.n))) .n)))))
theorem yA{lp:Fa}(hL:D8 lp)(G:AV):Le G 21 (Gx (QZ lp G)):=
 .mk Ul <| YG hL (an:=xE lp G) (λ_ _=>obs (by kernel_rfl)) λc a0 H n k=>by kernel_rfl
def AG4:Ta:=λlp G c k=>(.s .n (.s .n (.s .n (.j (λR=>VZ lp G c k (rg R q1) (rg R q5)) (.s .n (.b (.l _ (lK lp G c k) (λR H n=>(rg R q1,rg R q5,rg R q9,rg R q10,rg R q11,H,n)) λih9=>.n))) .n))))
theorem AGV{lp:Fa}(hL:D8 lp)(G:AV):Le G 22 (QH (bY lp G)):=
 .mk jJ <| yK hL (an:=AG4 lp G) (λ_ _=>obs (by kernel_rfl)) λc a0 a1 H n k=>by kernel_rfl
def nI:Ta:=λlp G c k=>(.s .n (.s .n (.s .n (.s .n (.j (λR=>Gl lp G c k (rg R q0) (rg R q2) (rg R q3)) .n (.s .n (.j (λR=>JJ lp G c k (rg R q0) (rg R q2) (rg R q3)) (.b (.l _ (TF lp G c k) (λR H n=>(rg R q0,rg R q2,rg R q3,H,n)) λih34=>.n)) (.j (λR=>GX lp G c k (rg R q2) (rg R q3)) .n .n))))))))
theorem mF{lp:Fa}(hL:D8 lp)(G:AV):Le G 24 (Gx (NM lp G)):=
 .mk QG <| YG hL (an:=nI lp G) (λ_ _=>obs (by kernel_rfl)) λc a0 H n k=>by kernel_rfl
def wW:Ta:=λlp G c k=>.n
theorem vV{lp:Fa}(hL:D8 lp)(G:AV):Le G 25 (Gx (Qr lp G)):=
 .mk Um <| YG hL (an:=wW lp G) (λ_ _=>obs (by kernel_rfl)) λc a0 H n k=>by kernel_rfl
def V4:Ta:=λlp G c k=>(.s .n (.s .n (.j (λR=>Hq lp G c k) (.s .n (.b (.l _ (Kq lp G c k) (λR H n=>(rg R q0,rg R q1,rg R q12,rg R q13,H,n)) λih6=>.n))) .n)))
theorem Vz{lp:Fa}(hL:D8 lp)(G:AV):Le G 26 (QH (FY lp G)):=
 .mk Ia <| yK hL (an:=V4 lp G) (λ_ _=>obs (by kernel_rfl)) λc a0 a1 H n k=>by kernel_rfl
def IC:Ta:=λlp G c k=>(.s .n (.s .n (.j (λR=>Cj lp G c k) (.s .n (.b (.l _ (EC lp G c k) (λR H n=>(rg R q1,rg R q2,rg R q15,rg R q16,rg R q17,H,n)) λih6=>.n))) .n)))
theorem Hz{lp:Fa}(hL:D8 lp)(G:AV):Le G 27 (ar3 (Bg lp G)):=
 .mk DI <| sf3 hL (an:=IC lp G) (λ_ _=>obs (by kernel_rfl)) λc a0 a1 a2 H n k=>by kernel_rfl
def xO:Ta:=λlp G c k=>.n
theorem vP{lp:Fa}(hL:D8 lp)(G:AV):Le G 28 (QH (Qs lp G)):=
 .mk Ug <| yK hL (an:=xO lp G) (λ_ _=>obs (by kernel_rfl)) λc a0 a1 H n k=>by kernel_rfl
def zJ:Ta:=λlp G c k=>(.b (.l _ (Xb lp G c k) (λR H n=>(rg R q0,H,n)) λih1=>(.s .n (.b (.s .n (.b (.s .n (.c .n (.s .n (.c (.s .n (.j (λR=>FU lp G c k ih1 (rg R q0) (rg R q3)) .n .n)) .n))))))))))
theorem zx{lp:Fa}(hL:D8 lp)(G:AV):Le G 29 (Gx (SV lp G)):=
 .mk Vo <| YG hL (an:=zJ lp G) (λ_ _=>obs (by kernel_rfl)) λc a0 H n k=>by kernel_rfl
def AAT:Ta:=λlp G c k=>(.s .n (.s .n (.s .n (.s .n (.j (λR=>D7 lp G c k (rg R q0) (rg R q2) (rg R q4)) (.b (.s .n (.c .n (.s .n (.c .n (.s .n (.c .n (.s .n (.b (.l _ (WH lp G c k) (λR H n=>(rg R q0,rg R q2,rg R q4,rg R q34,rg R q35,H,n)) λih81=>.n)))))))))) .n)))))
theorem zY{lp:Fa}(hL:D8 lp)(G:AV):Le G 30 (Gx (Sr lp G)):=
 .mk VQ <| YG hL (an:=AAT lp G) (λ_ _=>obs (by kernel_rfl)) λc a0 H n k=>by kernel_rfl
def AA7:Ta:=λlp G c k=>(.s .n (.s .n (.j (λR=>TR lp G c k) (.s .n (.b (.l _ (Xr lp G c k) (λR H n=>(rg R q1,rg R q29,rg R q30,rg R q31,H,n)) λih23=>.n))) .n)))
theorem ABD{lp:Fa}(hL:D8 lp)(G:AV):Le G 31 (QH (Ub lp G)):=
 .mk XD <| yK hL (an:=AA7 lp G) (λ_ _=>obs (by kernel_rfl)) λc a0 a1 H n k=>by kernel_rfl
def oh:Ta:=λlp G c k=>.n
theorem qO{lp:Fa}(hL:D8 lp)(G:AV):Le G 32 (QH (OW lp G)):=
 .mk RH <| yK hL (an:=oh lp G) (λ_ _=>obs (by kernel_rfl)) λc a0 a1 H n k=>by kernel_rfl
def xI:Ta:=λlp G c k=>(.s .n (.s .n (.s .n (.s .n (.j (λR=>BG lp G c k (rg R q4) (rg R q7)) (.s .n (.b (.j (λR=>Dn lp G c k (rg R q2) (rg R q4) (rg R q5) (rg R q6) (rg R q7) (rg R q22) (rg R q28)) .n (.c .n (.s .n (.c .n (.s .n (.c .n (.s .n (.c (.s .n (.s .n (.s .n (.b (.l _ (O6 lp G c k) (λR H n=>(rg R q4,rg R q5,rg R q6,rg R q7,rg R q8,H,n)) λih42=>.n))))) (.s .n (.c (.s .n (.s .n (.s .n (.b (.l _ (PN lp G c k) (λR H n=>(rg R q4,rg R q5,rg R q6,rg R q7,rg R q9,H,n)) λih62=>.n))))) (.s .n (.c .n (.s .n (.c .n (.j (λR=>EU lp G c k (rg R q2) (rg R q4) (rg R q5) (rg R q6) (rg R q7) (rg R q22) (rg R AaQ)) .n (.c .n (.j (λR=>EW lp G c k (rg R q2) (rg R q4) (rg R q5) (rg R q6) (rg R q7) (rg R q22) (rg R Aal)) .n (.c .n (.s .n (.c .n (.j (λR=>FZ lp G c k (rg R q2) (rg R q4) (rg R q5) (rg R q6) (rg R q7) (rg R AZ0)) .n .n))))))))))))))))))))))) .n)))))
theorem vU{lp:Fa}(hL:D8 lp)(G:AV):Le G 33 (QH (Qc lp G)):=
 .mk Ud <| yK hL (an:=xI lp G) (λ_ _=>obs (by kernel_rfl)) λc a0 a1 H n k=>by kernel_rfl
def ANC:Ta:=λlp G c k=>.n
theorem AFX{lp:Fa}(hL:D8 lp)(G:AV):Le G 34 (Gx (Zq lp G)):=
 .mk fH <| YG hL (an:=ANC lp G) (λ_ _=>obs (by kernel_rfl)) λc a0 H n k=>by kernel_rfl
def AAc:Ta:=λlp G c k=>(.s .n (.s .n (.s (.s .n (.b (.s .n (.c .n (.s .n (.c .n (.s .n (.c (.s .n (.j (λR=>KD lp G c k (rg R q6)) .n .n)) .n)))))))) .n)))
theorem Gz{lp:Fa}(hL:D8 lp)(G:AV):Le G 37 (QH (BQ lp G)):=
 .mk Ci <| yK hL (an:=AAc lp G) (λ_ _=>obs (by kernel_rfl)) λc a0 a1 H n k=>by kernel_rfl
def rQ:Ta:=λlp G c k=>(.s .n (.b (.l _ (U2 lp G c k) (λR H n=>(rg R q0,rg R q6,rg R q7,rg R q8,H,n)) λih2=>(.s .n (.s .n (.j (λR=>IQ lp G c k ih2 (rg R q0) (rg R q6) (rg R q7) (rg R q8)) .n .n))))))
theorem sN{lp:Fa}(hL:D8 lp)(G:AV):Le G 39 (QH (OT lp G)):=
 .mk RU <| yK hL (an:=rQ lp G) (λ_ _=>obs (by kernel_rfl)) λc a0 a1 H n k=>by kernel_rfl
def pF:Ta:=λlp G c k=>.n
theorem rE{lp:Fa}(hL:D8 lp)(G:AV):Le G 40 (QH (OO lp G)):=
 .mk Rh <| yK hL (an:=pF lp G) (λ_ _=>obs (by kernel_rfl)) λc a0 a1 H n k=>by kernel_rfl
def oD:Ta:=λlp G c k=>.n
theorem qF{lp:Fa}(hL:D8 lp)(G:AV):Le G 41 (QH (OG lp G)):=
 .mk RY <| yK hL (an:=oD lp G) (λ_ _=>obs (by kernel_rfl)) λc a0 a1 H n k=>by kernel_rfl
def uG:Ta:=λlp G c k=>(.s .n (.s .n (.j (λR=>Iq lp G c k (rg R q2) (rg R q3)) .n .n)))
theorem uN{lp:Fa}(hL:D8 lp)(G:AV):Le G 42 (Gx (O5 lp G)):=
 .mk TK <| YG hL (an:=uG lp G) (λ_ _=>obs (by kernel_rfl)) λc a0 H n k=>by kernel_rfl
def rZ:Ta:=λlp G c k=>.n
theorem ni{lp:Fa}(hL:D8 lp)(G:AV):Le G 43 (QH (OI lp G)):=
 .mk RG <| yK hL (an:=rZ lp G) (λ_ _=>obs (by kernel_rfl)) λc a0 a1 H n k=>by kernel_rfl
def vg:Ta:=λlp G c k=>(.s .n (.j (λR=>Q5 lp G c k) (.s .n (.b (.l _ (WL lp G c k) (λR H n=>(rg R q0,rg R q7,rg R q8,rg R q9,H,n)) λih3=>.n))) .n))
theorem xq{lp:Fa}(hL:D8 lp)(G:AV):Le G 44 (QH (Qj lp G)):=
 .mk Uo <| yK hL (an:=vg lp G) (λ_ _=>obs (by kernel_rfl)) λc a0 a1 H n k=>by kernel_rfl
def jq:Ta:=λlp G c k=>(.s .n (.s .n (.s .n (.s .n (.s .n (.s .n (.s .n (.j (λR=>Ii lp G c k (rg R q0) (rg R q2) (rg R q4)) (.b (.l _ (RF lp G c k) (λR H n=>(rg R q0,rg R q2,rg R q4,H,n)) λih31=>(.s .n (.b (.j (λR=>Fe lp G c k ih31 (rg R q0) (rg R q2) (rg R q4)) .n .n))))) .n))))))))
theorem kF{lp:Fa}(hL:D8 lp)(G:AV):Le G 45 (Gx (LM lp G)):=
 .mk PK <| YG hL (an:=jq lp G) (λ_ _=>obs (by kernel_rfl)) λc a0 H n k=>by kernel_rfl
def rX:Ta:=λlp G c k=>.n
theorem sJ{lp:Fa}(hL:D8 lp)(G:AV):Le G 46 (QH (N9 lp G)):=
 .mk Rj <| yK hL (an:=rX lp G) (λ_ _=>obs (by kernel_rfl)) λc a0 a1 H n k=>by kernel_rfl
def Jj:Ta:=λlp G c k=>(.s .n (.s .n (.j (λR=>DZ lp G c k) (.s .n (.b (.l _ (EZ lp G c k) (λR H n=>(rg R q1,rg R q2,rg R q15,rg R q16,rg R q17,H,n)) λih6=>.n))) .n)))
theorem Jo{lp:Fa}(hL:D8 lp)(G:AV):Le G 47 (ar3 (CZ lp G)):=
 .mk Dj <| sf3 hL (an:=Jj lp G) (λ_ _=>obs (by kernel_rfl)) λc a0 a1 a2 H n k=>by kernel_rfl
def AAa:Ta:=λlp G c k=>.n
theorem ABU{lp:Fa}(hL:D8 lp)(G:AV):Le G 48 (QH (UR lp G)):=
 .mk Wv <| yK hL (an:=AAa lp G) (λ_ _=>obs (by kernel_rfl)) λc a0 a1 H n k=>by kernel_rfl
def yN:Ta:=λlp G c k=>(.s .n (.b (.l _ (X4 lp G c k) (λR H n=>(rg R q0,rg R q4,rg R q5,H,n)) λih1=>(.s .n (.s .n (.s (.b (.s .n (.j (λR=>Jf lp G c k ih1 (rg R q0) (rg R q4) (rg R q5)) .n .n))) .n))))))
theorem yu{lp:Fa}(hL:D8 lp)(G:AV):Le G 49 (QH (SH lp G)):=
 .mk VX <| yK hL (an:=yN lp G) (λ_ _=>obs (by kernel_rfl)) λc a0 a1 H n k=>by kernel_rfl
def oZ:Ta:=λlp G c k=>.n
theorem oI{lp:Fa}(hL:D8 lp)(G:AV):Le G 50 (QH (OA lp G)):=
 .mk Rf <| yK hL (an:=oZ lp G) (λ_ _=>obs (by kernel_rfl)) λc a0 a1 H n k=>by kernel_rfl
def qg:Ta:=λlp G c k=>.n
theorem qR{lp:Fa}(hL:D8 lp)(G:AV):Le G 51 (QH (OE lp G)):=
 .mk Q8 <| yK hL (an:=qg lp G) (λ_ _=>obs (by kernel_rfl)) λc a0 a1 H n k=>by kernel_rfl
def AHO:Ta:=λlp G c k=>.n
theorem AG8{lp:Fa}(hL:D8 lp)(G:AV):Le G 52 (Gx (bD lp G)):=
 .mk ji <| YG hL (an:=AHO lp G) (λ_ _=>obs (by kernel_rfl)) λc a0 H n k=>by kernel_rfl
def AAg:Ta:=λlp G c k=>(.s .n (.s .n (.j (λR=>Ph lp G c k (rg R q0) (rg R q5)) (.b (.l _ (YF lp G c k) (λR H n=>(rg R q0,rg R q1,rg R q5,H,n)) λih13=>.n)) .n)))
theorem AAp{lp:Fa}(hL:D8 lp)(G:AV):Le G 53 (QH (Ua lp G)):=
 .mk XJ <| yK hL (an:=AAg lp G) (λ_ _=>obs (by kernel_rfl)) λc a0 a1 H n k=>by kernel_rfl
def AGD:Ta:=λlp G c k=>.n
theorem AHC{lp:Fa}(hL:D8 lp)(G:AV):Le G 54 (Gx (aK lp G)):=
 .mk iR <| YG hL (an:=AGD lp G) (λ_ _=>obs (by kernel_rfl)) λc a0 H n k=>by kernel_rfl
def AHM:Ta:=λlp G c k=>.n
theorem AGy{lp:Fa}(hL:D8 lp)(G:AV):Le G 55 (Gx (cO lp G)):=
 .mk jk <| YG hL (an:=AHM lp G) (λ_ _=>obs (by kernel_rfl)) λc a0 H n k=>by kernel_rfl
def AGv:Ta:=λlp G c k=>(.s .n (.s (.s .n (.b (.j (λR=>Bj lp G c k (rg R q4)) .n .n))) .n))
theorem AGt{lp:Fa}(hL:D8 lp)(G:AV):Le G 56 (Gx (ak lp G)):=
 .mk iQ <| YG hL (an:=AGv lp G) (λ_ _=>obs (by kernel_rfl)) λc a0 H n k=>by kernel_rfl
def AGU:Ta:=λlp G c k=>.n
theorem AF8{lp:Fa}(hL:D8 lp)(G:AV):Le G 57 (Gx (bg lp G)):=
 .mk kQ <| YG hL (an:=AGU lp G) (λ_ _=>obs (by kernel_rfl)) λc a0 H n k=>by kernel_rfl
def AEt:Ta:=λlp G c k=>(.s .n (.s .n (.j (λR=>YT lp G c k (rg R q4)) (.s .n (.b (.l _ (iL lp G c k) (λR H n=>(rg R q4,rg R q8,rg R q9,rg R q10,H,n)) λih4=>.n))) .n)))
theorem AEk{lp:Fa}(hL:D8 lp)(G:AV):Le G 58 (Gx (ZN lp G)):=
 .mk eU <| YG hL (an:=AEt lp G) (λ_ _=>obs (by kernel_rfl)) λc a0 H n k=>by kernel_rfl
def qw:Ta:=λlp G c k=>.n
theorem YE{lp:Fa}(hL:D8 lp)(G:AV):Le G 59 (ar3 (Fj lp G)):=
 .mk Jh <| sf3 hL (an:=qw lp G) (λ_ _=>obs (by kernel_rfl)) λc a0 a1 a2 H n k=>by kernel_rfl
def AAf:Ta:=λlp G c k=>.n
theorem AAi{lp:Fa}(hL:D8 lp)(G:AV):Le G 60 (Gx (UZ lp G)):=
 .mk W9 <| YG hL (an:=AAf lp G) (λ_ _=>obs (by kernel_rfl)) λc a0 H n k=>by kernel_rfl
def AA8:Ta:=λlp G c k=>.n
theorem ABW{lp:Fa}(hL:D8 lp)(G:AV):Le G 63 (QH (UJ lp G)):=
 .mk XH <| yK hL (an:=AA8 lp G) (λ_ _=>obs (by kernel_rfl)) λc a0 a1 H n k=>by kernel_rfl
def qP:Ta:=λlp G c k=>(.s .n (.s .n (.j (λR=>IL lp G c k (rg R q2) (rg R q3)) .n .n)))
theorem o9{lp:Fa}(hL:D8 lp)(G:AV):Le G 66 (Gx (OV lp G)):=
 .mk Ro <| YG hL (an:=qP lp G) (λ_ _=>obs (by kernel_rfl)) λc a0 H n k=>by kernel_rfl
def oC:Ta:=λlp G c k=>.n
theorem o7{lp:Fa}(hL:D8 lp)(G:AV):Le G 67 (Gx (OD lp G)):=
 .mk RI <| YG hL (an:=oC lp G) (λ_ _=>obs (by kernel_rfl)) λc a0 H n k=>by kernel_rfl
def nD:Ta:=λlp G c k=>(.s .n (.s .n (.s .n (.s .n (.j (λR=>Jv lp G c k (rg R q3) (rg R q22)) (.b (.l _ (Tc lp G c k) (λR H n=>(rg R q0,rg R q3,rg R q22,H,n)) λih6=>.n)) .n)))))
theorem nX{lp:Fa}(hL:D8 lp)(G:AV):Le G 68 (Gx (MZ lp G)):=
 .mk QO <| YG hL (an:=nD lp G) (λ_ _=>obs (by kernel_rfl)) λc a0 H n k=>by kernel_rfl
def Jl:Ta:=λlp G c k=>(.s .n (.s .n (.j (λR=>Dc lp G c k) (.s .n (.b (.l _ (EY lp G c k) (λR H n=>(rg R q1,rg R q2,rg R q15,rg R q16,rg R q17,H,n)) λih6=>.n))) .n)))
theorem Jp{lp:Fa}(hL:D8 lp)(G:AV):Le G 69 (ar3 (CY lp G)):=
 .mk Dk <| sf3 hL (an:=Jl lp G) (λ_ _=>obs (by kernel_rfl)) λc a0 a1 a2 H n k=>by kernel_rfl
def AA2:Ta:=λlp G c k=>.n
theorem AAl{lp:Fa}(hL:D8 lp)(G:AV):Le G 70 (QH (UK lp G)):=
 .mk XF <| yK hL (an:=AA2 lp G) (λ_ _=>obs (by kernel_rfl)) λc a0 a1 H n k=>by kernel_rfl
def VA:Ta:=λlp G c k=>.n
theorem U8{lp:Fa}(hL:D8 lp)(G:AV):Le G 71 (QH (FH lp G)):=
 .mk Hr <| yK hL (an:=VA lp G) (λ_ _=>obs (by kernel_rfl)) λc a0 a1 H n k=>by kernel_rfl
def U6:Ta:=λlp G c k=>.n
theorem VD{lp:Fa}(hL:D8 lp)(G:AV):Le G 72 (QH (FB lp G)):=
 .mk Ht <| yK hL (an:=U6 lp G) (λ_ _=>obs (by kernel_rfl)) λc a0 a1 H n k=>by kernel_rfl
def ABa:Ta:=λlp G c k=>.n
theorem Bv{lp:Fa}(hL:D8 lp)(G:AV):Le G 74 (Gx (AZ lp G)):=
 .mk Af <| YG hL (an:=ABa lp G) (λ_ _=>obs (by kernel_rfl)) λc a0 H n k=>by kernel_rfl
def AKq:Ta:=λlp G c k=>.n
theorem AJc{lp:Fa}(hL:D8 lp)(G:AV):Le G 77 (ar0 (tN lp G)):=
 .mk vY <| sf0 hL (an:=AKq lp G) (λ_ _=>obs (by kernel_rfl)) λc H n k=>by kernel_rfl
def AHl:Ta:=λlp G c k=>.n
theorem AHZ{lp:Fa}(hL:D8 lp)(G:AV):Le G 78 (ar0 (kS lp G)):=
 .mk pK <| sf0 hL (an:=AHl lp G) (λ_ _=>obs (by kernel_rfl)) λc H n k=>by kernel_rfl
def rW:Ta:=λlp G c k=>(.s .n (.j (λR=>IG lp G c k (rg R q1)) .n .n))
theorem ou{lp:Fa}(hL:D8 lp)(G:AV):Le G 79 (Gx (N8 lp G)):=
 .mk Q7 <| YG hL (an:=rW lp G) (λ_ _=>obs (by kernel_rfl)) λc a0 H n k=>by kernel_rfl
def oz:Ta:=λlp G c k=>(.s .n (.s .n (.j (λR=>EG lp G c k (rg R q0) (rg R q2) (rg R q3)) .n .n)))
theorem pY{lp:Fa}(hL:D8 lp)(G:AV):Le G 80 (Gx (OJ lp G)):=
 .mk Ri <| YG hL (an:=oz lp G) (λ_ _=>obs (by kernel_rfl)) λc a0 H n k=>by kernel_rfl
def sG:Ta:=λlp G c k=>.n
theorem rO{lp:Fa}(hL:D8 lp)(G:AV):Le G 83 (QH (OB lp G)):=
 .mk RX <| yK hL (an:=sG lp G) (λ_ _=>obs (by kernel_rfl)) λc a0 a1 H n k=>by kernel_rfl
def ACY:Ta:=λlp G c k=>.n
theorem ACS{lp:Fa}(hL:D8 lp)(G:AV):Le G 84 (QH (Vd lp G)):=
 .mk YX <| yK hL (an:=ACY lp G) (λ_ _=>obs (by kernel_rfl)) λc a0 a1 H n k=>by kernel_rfl
def AI7:Ta:=λlp G c k=>(.s .n (.s .n (.j (λR=>XQ lp G c k (rg R q3)) (.s .n (.b (.l _ (qV lp G c k) (λR H n=>(rg R q3,rg R q6,rg R q7,rg R q8,H,n)) λih4=>.n))) .n)))
theorem AIA{lp:Fa}(hL:D8 lp)(G:AV):Le G 85 (Gx (jv lp G)):=
 .mk oV <| YG hL (an:=AI7 lp G) (λ_ _=>obs (by kernel_rfl)) λc a0 H n k=>by kernel_rfl
def AAx:Ta:=λlp G c k=>.n
theorem AAv{lp:Fa}(hL:D8 lp)(G:AV):Le G 86 (Gx (UN lp G)):=
 .mk Ws <| YG hL (an:=AAx lp G) (λ_ _=>obs (by kernel_rfl)) λc a0 H n k=>by kernel_rfl
def jD:Ta:=λlp G c k=>.n
theorem jf{lp:Fa}(hL:D8 lp)(G:AV):Le G 87 (Gx (LG lp G)):=
 .mk Ej <| YG hL (an:=jD lp G) (λ_ _=>obs (by kernel_rfl)) λc a0 H n k=>by kernel_rfl
def qx:Ta:=λlp G c k=>.n
theorem ny{lp:Fa}(hL:D8 lp)(G:AV):Le G 88 (Gx (Ny lp G)):=
 .mk Rn <| YG hL (an:=qx lp G) (λ_ _=>obs (by kernel_rfl)) λc a0 H n k=>by kernel_rfl
def kU:Ta:=λlp G c k=>(.s .n (.s .n (.s .n (.s .n (.s .n (.s .n (.j (λR=>Ef lp G c k (rg R q2) (rg R q3) (rg R q37)) .n .n)))))))
theorem kD{lp:Fa}(hL:D8 lp)(G:AV):Le G 89 (Gx (LH lp G)):=
 .mk PU <| YG hL (an:=kU lp G) (λ_ _=>obs (by kernel_rfl)) λc a0 H n k=>by kernel_rfl
def nH:Ta:=λlp G c k=>(.s .n (.s .n (.s (.s .n (.c (.j (λR=>GZ lp G c k) .n .n) .n)) (.j (λR=>Gh lp G c k (rg R q0) (rg R q1)) .n .n))))
theorem mY{lp:Fa}(hL:D8 lp)(G:AV):Le G 90 (QH (NI lp G)):=
 .mk QM <| yK hL (an:=nH lp G) (λ_ _=>obs (by kernel_rfl)) λc a0 a1 H n k=>by kernel_rfl
def X0:Ta:=λlp G c k=>(.s .n (.s (.s .n (.c (.s .n (.s .n (.s .n (.j (λR=>FP lp G c k (rg R q0) (rg R q5) (rg R q6)) .n .n)))) .n)) .n))
theorem Xf{lp:Fa}(hL:D8 lp)(G:AV):Le G 91 (QH (Gm lp G)):=
 .mk JR <| yK hL (an:=X0 lp G) (λ_ _=>obs (by kernel_rfl)) λc a0 a1 H n k=>by kernel_rfl
def jU:Ta:=λlp G c k=>(.s .n (.s .n (.j (λR=>NV lp G c k (rg R q8) (rg R q9)) (.b (.l _ (TD lp G c k) (λR H n=>(rg R q0,rg R q1,rg R q2,rg R q3,rg R q8,rg R q9,H,n)) λih8=>.n)) .n)))
theorem kM{lp:Fa}(hL:D8 lp)(G:AV):Le G 92 (ar4 (La lp G)):=
 .mk PO <| sf4 hL (an:=jU lp G) (λ_ _=>obs (by kernel_rfl)) λc a0 a1 a2 a3 H n k=>by kernel_rfl
def jZ:Ta:=λlp G c k=>.n
theorem jQ{lp:Fa}(hL:D8 lp)(G:AV):Le G 93 (Gx (LU lp G)):=
 .mk PW <| YG hL (an:=jZ lp G) (λ_ _=>obs (by kernel_rfl)) λc a0 H n k=>by kernel_rfl
def dP:Ta:=λlp G c k=>(.s .n (.s .n (.s .n (.j (λR=>FV lp G c k (rg R q2) (rg R q4)) .n .n))))
theorem dD{lp:Fa}(hL:D8 lp)(G:AV):Le G 94 (Gx (Js lp G)):=
 .mk NY <| YG hL (an:=dP lp G) (λ_ _=>obs (by kernel_rfl)) λc a0 H n k=>by kernel_rfl
def Z8:Ta:=λlp G c k=>.n
theorem aA{lp:Fa}(hL:D8 lp)(G:AV):Le G 95 (Gx (JH lp G)):=
 .mk Ll <| YG hL (an:=Z8 lp G) (λ_ _=>obs (by kernel_rfl)) λc a0 H n k=>by kernel_rfl
def Xc:Ta:=λlp G c k=>.n
theorem Xl{lp:Fa}(hL:D8 lp)(G:AV):Le G 96 (Gx (Gq lp G)):=
 .mk JU <| YG hL (an:=Xc lp G) (λ_ _=>obs (by kernel_rfl)) λc a0 H n k=>by kernel_rfl
def VP:Ta:=λlp G c k=>(.s .n (.j (λR=>Ei lp G c k (rg R q0) (rg R q1) (rg R q4)) (.b (.l _ (KG lp G c k) (λR H n=>(rg R q0,rg R q1,rg R q4,H,n)) λih51=>.n)) (.s .n (.j (λR=>EF lp G c k (rg R q0) (rg R q4) (rg R q12)) .n (.j (λR=>ED lp G c k (rg R q0) (rg R q4) (rg R q12)) .n .n)))))
theorem Vg{lp:Fa}(hL:D8 lp)(G:AV):Le G 97 (QH (FT lp G)):=
 .mk IU <| yK hL (an:=VP lp G) (λ_ _=>obs (by kernel_rfl)) λc a0 a1 H n k=>by kernel_rfl
def Zk:Ta:=λlp G c k=>.n
theorem Zp{lp:Fa}(hL:D8 lp)(G:AV):Le G 99 (Gx (Ij lp G)):=
 .mk Kr <| YG hL (an:=Zk lp G) (λ_ _=>obs (by kernel_rfl)) λc a0 H n k=>by kernel_rfl
def nR:Ta:=λlp G c k=>(.s .n (.s .n (.j (λR=>Og lp G c k (rg R q6) (rg R q7)) (.b (.l _ (Td lp G c k) (λR H n=>(rg R q0,rg R q1,rg R q2,rg R q6,rg R q7,H,n)) λih8=>.n)) .n)))
theorem nO{lp:Fa}(hL:D8 lp)(G:AV):Le G 100 (ar3 (MV lp G)):=
 .mk QI <| sf3 hL (an:=nR lp G) (λ_ _=>obs (by kernel_rfl)) λc a0 a1 a2 H n k=>by kernel_rfl
def YV:Ta:=λlp G c k=>.n
theorem YR{lp:Fa}(hL:D8 lp)(G:AV):Le G 101 (Gx (Hf lp G)):=
 .mk J3 <| YG hL (an:=YV lp G) (λ_ _=>obs (by kernel_rfl)) λc a0 H n k=>by kernel_rfl
def nP:Ta:=λlp G c k=>(.s .n (.s .n (.j (λR=>JL lp G c k (rg R q0) (rg R q2) (rg R q63)) (.s .n (.b (.l _ (TG lp G c k) (λR H n=>(rg R q0,rg R q2,rg R q3,rg R q16,rg R q17,rg R q18,rg R q63,H,n)) λih37=>.n))) (.s .n (.j (λR=>NZ lp G c k (rg R q2) (rg R q6) (rg R q63)) (.b (.l _ (TB lp G c k) (λR H n=>(rg R q0,rg R q2,rg R q6,rg R q63,H,n)) λih17=>(.s .n (.b (.s .n (.s .n (.j (λR=>GR lp G c k ih17 (rg R q0) (rg R q2) (rg R q6) (rg R q7) (rg R q8) (rg R q63)) .n .n))))))) .n)))))
theorem mV{lp:Fa}(hL:D8 lp)(G:AV):Le G 102 (Gx (NH lp G)):=
 .mk QJ <| YG hL (an:=nP lp G) (λ_ _=>obs (by kernel_rfl)) λc a0 H n k=>by kernel_rfl
def Xj:Ta:=λlp G c k=>.n
theorem Xz{lp:Fa}(hL:D8 lp)(G:AV):Le G 103 (Gx (Gp lp G)):=
 .mk Ji <| YG hL (an:=Xj lp G) (λ_ _=>obs (by kernel_rfl)) λc a0 H n k=>by kernel_rfl
def yE:Ta:=λlp G c k=>(.s .n (.j (λR=>Jd lp G c k (rg R q0) (rg R q2)) .n (.j (λR=>JZ lp G c k (rg R q0) (rg R q2)) .n (.j (λR=>Jb lp G c k (rg R q0) (rg R q2)) .n .n))))
theorem vW{lp:Fa}(hL:D8 lp)(G:AV):Le G 104 (Gx (Qq lp G)):=
 .mk Uw <| YG hL (an:=yE lp G) (λ_ _=>obs (by kernel_rfl)) λc a0 H n k=>by kernel_rfl
def Xq:Ta:=λlp G c k=>.n
theorem X8{lp:Fa}(hL:D8 lp)(G:AV):Le G 105 (Gx (Gt lp G)):=
 .mk JQ <| YG hL (an:=Xq lp G) (λ_ _=>obs (by kernel_rfl)) λc a0 H n k=>by kernel_rfl
def mM:Ta:=λlp G c k=>(.s .n (.s .n (.b (.l _ (UE lp G c k) (λR H n=>(rg R q0,rg R q2,rg R q3,H,n)) λih5=>.n))))
theorem nG{lp:Fa}(hL:D8 lp)(G:AV):Le G 108 (Gx (MX lp G)):=
 .mk QN <| YG hL (an:=mM lp G) (λ_ _=>obs (by kernel_rfl)) λc a0 H n k=>by kernel_rfl
def qh:Ta:=λlp G c k=>(.s .n (.s .n (.s .n (.j (λR=>BI lp G c k (rg R q2) (rg R q4)) .n .n))))
theorem qc{lp:Fa}(hL:D8 lp)(G:AV):Le G 111 (Gx (OC lp G)):=
 .mk RD <| YG hL (an:=qh lp G) (λ_ _=>obs (by kernel_rfl)) λc a0 H n k=>by kernel_rfl
def kT:Ta:=λlp G c k=>.n
theorem kH{lp:Fa}(hL:D8 lp)(G:AV):Le G 112 (ar3 (LP lp G)):=
 .mk Oz <| sf3 hL (an:=kT lp G) (λ_ _=>obs (by kernel_rfl)) λc a0 a1 a2 H n k=>by kernel_rfl
def pX:Ta:=λlp G c k=>(.s .n (.s .n (.s .n (.j (λR=>KJ lp G c k (rg R q3)) (.b (.l _ (U3 lp G c k) (λR H n=>(rg R q0,rg R q3,H,n)) λih4=>(.s .n (.b (.j (λR=>HY lp G c k ih4 (rg R q0) (rg R q3)) .n .n))))) .n))))
theorem rU{lp:Fa}(hL:D8 lp)(G:AV):Le G 113 (Gx (OQ lp G)):=
 .mk Rl <| YG hL (an:=pX lp G) (λ_ _=>obs (by kernel_rfl)) λc a0 H n k=>by kernel_rfl
def AAJ:Ta:=λlp G c k=>.n
theorem AAN{lp:Fa}(hL:D8 lp)(G:AV):Le G 114 (Gx (SS lp G)):=
 .mk Ve <| YG hL (an:=AAJ lp G) (λ_ _=>obs (by kernel_rfl)) λc a0 H n k=>by kernel_rfl
end Go.PQ
