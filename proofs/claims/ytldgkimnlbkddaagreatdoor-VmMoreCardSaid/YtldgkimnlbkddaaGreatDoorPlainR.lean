/- Part of a proof; nothing is assumed. -/
import Derived.Test.YtldgkimnlbkddaaGreatDoorPlain
import Derived.Test.YtldgkimnlbkddaaGreatDoorCode
import Derived.Test.YtldgkimnlbkddaaGreatDoorEngE
set_option linter.unusedVariables false
set_option linter.unusedSimpArgs false
noncomputable section
namespace Go.RL
open Go.Bf
set_option maxRecDepth 100000
abbrev Ta:=EZ->AY->Au->KV->An
inductive KJ(G:AY)(n:Nat)(s:SF):Prop where
 |mk {af:AF} (h:T.get F n=some af) (o:ARd G af s):KJ G n s
def ABi:Ta:=λlp G c k=>(.s .n (.s .n (.s .n (.s .n (.s .n (.s .n (.s .n (.j (λR=>XG lp G c k) (.s .n (.b (.l _ (VJ lp G c k) (λR H n=>(rg R q1,rg R q11,rg R q13,rg R q14,rg R q60,rg R q61,rg R q62,H,n)) λih31=>(.s .n (.s .n (.j (λR=>JO lp G c k ih31 (rg R q1) (rg R q11) (rg R q13) (rg R q14) (rg R q60) (rg R q61) (rg R q62)) (.b (.s .n (.s .n (.b (.l _ (NZ lp G c k ih31) (λR H n=>(rg R q1,rg R q11,rg R q13,rg R q14,rg R q16,rg R q60,rg R q61,rg R q62,rg R q68,rg R q69,rg R q70,H,n)) λih43=>(.s .n (.s .n (.j (λR=>Eo lp G c k ih31 ih43 (rg R q1) (rg R q11) (rg R q13) (rg R q14) (rg R q16) (rg R q60) (rg R q61) (rg R q62) (rg R q68) (rg R q69) (rg R q70)) (.b (.s .n (.s .n (.s .n (.j (λR=>JU lp G c k ih31 ih43 (rg R q1) (rg R q11) (rg R q13) (rg R q14) (rg R q16) (rg R q18) (rg R q19) (rg R q20) (rg R q60) (rg R q61) (rg R q62) (rg R q68) (rg R q69) (rg R q70)) (.s .n (.b (.l _ (IU lp G c k ih31 ih43) (λR H n=>(rg R q1,rg R q11,rg R q13,rg R q14,rg R q16,rg R q18,rg R q19,rg R q20,rg R q60,rg R q61,rg R q62,rg R q68,rg R q69,rg R q70,rg R q90,rg R q91,rg R q92,H,n)) λih128=>.n))) (.s .n (.s .n (.s .n (.s .n (.j (λR=>NV lp G c k ih31 ih43 (rg R q1) (rg R q11) (rg R q13) (rg R q14) (rg R q16) (rg R q23) (rg R q25) (rg R q60) (rg R q61) (rg R q62) (rg R q68) (rg R q69) (rg R q70)) (.s .n (.b (.l _ (UO lp G c k ih31 ih43) (λR H n=>(rg R q1,rg R q11,rg R q13,rg R q14,rg R q16,rg R q23,rg R q25,rg R q60,rg R q61,rg R q62,rg R q68,rg R q69,rg R q70,rg R AhZ,rg R Agh,H,n)) λih113=>.n))) .n)))))))))) .n)))))))) .n)))))) .n))))))))
theorem ABc{d:EZ}(f:Dc d)(G:AY):KJ G 3 (ar5 (dZ d G)):=
 .mk ABN <| sf5 f (an:=ABi d G) (λ_ _=>obs (by kernel_rfl)) λc g i m p q H n k=>by kernel_rfl
def AGj:Ta:=λlp G c k=>(.s .n (.j (λR=>VE lp G c k (rg R q0)) (.s .n (.b (.l _ (Zy lp G c k) (λR H n=>(rg R q0,rg R q5,rg R q6,rg R q7,H,n)) λih5=>.n))) .n))
theorem AGr{d:EZ}(f:Dc d)(G:AY):KJ G 5 (xC (vU d G)):=
 .mk AGf <| sf1 f (an:=AGj d G) (λ_ _=>obs (by kernel_rfl)) λc g H n k=>by kernel_rfl
def AOY:Ta:=λlp G c k=>(.s .n (.s .n (.s .n (.s .n (.j (λR=>iJ lp G c k (rg R q0) (rg R q4) (rg R q5)) (.s .n (.b (.l _ (ni lp G c k) (λR H n=>(rg R q0,rg R q4,rg R q5,rg R q19,rg R q20,rg R q21,H,n)) λih33=>.n))) (.s .n (.j (λR=>ZQ lp G c k (rg R q5)) (.s .n (.b (.l _ (YM lp G c k) (λR H n=>(rg R q5,rg R q73,rg R q74,rg R q75,H,n)) λih13=>.n))) .n)))))))
theorem ANd{d:EZ}(f:Dc d)(G:AY):KJ G 6 (xC (AHp d G)):=
 .mk AOn <| sf1 f (an:=AOY d G) (λ_ _=>obs (by kernel_rfl)) λc g H n k=>by kernel_rfl
def AI6:Ta:=λlp G c k=>(.s .n (.j (λR=>WU lp G c k (rg R q2)) (.s .n (.b (.l _ (eG lp G c k) (λR H n=>(rg R q0,rg R q2,rg R q12,rg R q13,rg R q14,H,n)) λih7=>(.s .n (.s .n (.j (λR=>QY lp G c k ih7 (rg R q0) (rg R q2) (rg R q12) (rg R q13) (rg R q14)) (.b (.s .n (.s .n (.s .n (.b (.l _ (Ti lp G c k ih7) (λR H n=>(rg R q0,rg R q2,rg R q4,rg R q5,rg R q12,rg R q13,rg R q14,rg R q26,rg R q27,rg R q28,H,n)) λih22=>.n)))))) .n)))))) .n))
theorem AI4{d:EZ}(f:Dc d)(G:AY):KJ G 7 (xC (AAD d G)):=
 .mk AI1 <| sf1 f (an:=AI6 d G) (λ_ _=>obs (by kernel_rfl)) λc g H n k=>by kernel_rfl
def ABm:Ta:=λlp G c k=>.n
theorem ABb{d:EZ}(f:Dc d)(G:AY):KJ G 8 (ar3 (gK d G)):=
 .mk ACA <| sf3 f (an:=ABm d G) (λ_ _=>obs (by kernel_rfl)) λc g i m H n k=>by kernel_rfl
def ASl:Ta:=λlp G c k=>.n
theorem ASF{d:EZ}(f:Dc d)(G:AY):KJ G 9 (ar0 (AMf d G)):=
 .mk ASd <| sf0 f (an:=ASl d G) (λ_ _=>obs (by kernel_rfl)) λc H n k=>by kernel_rfl
def AV6:Ta:=λlp G c k=>(.s .n (.s .n (.s .n (.s .n (.s .n (.j (λR=>uQ lp G c k (rg R q1) (rg R q10) (rg R q13) (rg R q15) (rg R q16)) (.s .n (.b (.l _ (ACl lp G c k) (λR H n=>(rg R q1,rg R q10,rg R q13,rg R q15,rg R q16,rg R q58,rg R q59,rg R q60,H,n)) λih67=>.n))) .n))))))
theorem AVn{d:EZ}(f:Dc d)(G:AY):KJ G 10 (ar5 (AP0 d G)):=
 .mk AVC <| sf5 f (an:=AV6 d G) (λ_ _=>obs (by kernel_rfl)) λc g i m p q H n k=>by kernel_rfl
def ADf:Ta:=λlp G c k=>.n
theorem ADd{d:EZ}(f:Dc d)(G:AY):KJ G 11 (xC (jR d G)):=
 .mk AEJ <| sf1 f (an:=ADf d G) (λ_ _=>obs (by kernel_rfl)) λc g H n k=>by kernel_rfl
def ACh:Ta:=λlp G c k=>.n
theorem ABv{d:EZ}(f:Dc d)(G:AY):KJ G 12 (ar2 (iH d G)):=
 .mk ACK <| sf2 f (an:=ACh d G) (λ_ _=>obs (by kernel_rfl)) λc g i H n k=>by kernel_rfl
def AHN:Ta:=λlp G c k=>(.s .n (.s .n (.j (λR=>L6 lp G c k (rg R q1)) (.s .n (.b (.l _ (X6 lp G c k) (λR H n=>(rg R q1,rg R q60,rg R q61,rg R q62,H,n)) λih127=>.n))) (.j (λR=>MQ lp G c k (rg R q1)) (.s .n (.b (.l _ (Xi lp G c k) (λR H n=>(rg R q1,rg R q72,rg R q73,rg R q74,H,n)) λih112=>.n))) (.j (λR=>MI lp G c k (rg R q1)) (.s .n (.b (.l _ (Y3 lp G c k) (λR H n=>(rg R q1,rg R q85,rg R q86,rg R q87,H,n)) λih86=>.n))) (.j (λR=>MV lp G c k (rg R q1)) (.s .n (.b (.l _ (Yr lp G c k) (λR H n=>(rg R q1,rg R AeR,rg R AfT,rg R Aez,H,n)) λih64=>.n))) (.j (λR=>TS lp G c k) (.s .n (.b (.l _ (ZK lp G c k) (λR H n=>(rg R AhS,rg R AgZ,rg R AhI,H,n)) λih49=>.n))) .n)))))))
theorem AHe{d:EZ}(f:Dc d)(G:AY):KJ G 15 (xC (uj d G)):=
 .mk AG3 <| sf1 f (an:=AHN d G) (λ_ _=>obs (by kernel_rfl)) λc g H n k=>by kernel_rfl
def ABU:Ta:=λlp G c k=>(.s .n (.s .n (.j (λR=>Oi lp G c k) (.s .n (.b (.l _ (NY lp G c k) (λR H n=>(rg R q1,rg R q30,rg R q31,rg R q32,H,n)) λih24=>(.s .n (.s .n (.j (λR=>Eh lp G c k ih24 (rg R q1) (rg R q30) (rg R q31) (rg R q32)) (.b (.s .n (.s .n (.s .n (.j (λR=>Ej lp G c k ih24 (rg R q1) (rg R q4) (rg R q6) (rg R q30) (rg R q31) (rg R q32)) .n (.s .n (.s .n (.b (.l _ (NW lp G c k ih24) (λR H n=>(rg R q1,rg R q4,rg R q30,rg R q31,rg R q32,rg R q83,rg R q84,rg R q85,H,n)) λih71=>.n))))))))) .n)))))) .n)))
theorem ABP{d:EZ}(f:Dc d)(G:AY):KJ G 16 (xC (dK d G)):=
 .mk ABj <| sf1 f (an:=ABU d G) (λ_ _=>obs (by kernel_rfl)) λc g H n k=>by kernel_rfl
def ARL:Ta:=λlp G c k=>(.s .n (.s .n (.j (λR=>lM lp G c k (rg R q3)) (.s .n (.b (.l _ (zG lp G c k) (λR H n=>(rg R q3,rg R q10,rg R q11,rg R q12,H,n)) λih7=>.n))) .n)))
theorem AQ9{d:EZ}(f:Dc d)(G:AY):KJ G 17 (xC (AK8 d G)):=
 .mk ARN <| sf1 f (an:=ARL d G) (λ_ _=>obs (by kernel_rfl)) λc g H n k=>by kernel_rfl
def ACZ:Ta:=λlp G c k=>(.s .n (.s .n (.s .n (.s .n (.s .n (.s .n (.j (λR=>Ja lp G c k (rg R q0) (rg R q5)) (.s .n (.b (.l _ (MX lp G c k) (λR H n=>(rg R q0,rg R q5,rg R q67,rg R q68,rg R q69,H,n)) λih74=>.n))) (.j (λR=>Nz lp G c k) (.s .n (.b (.l _ (VX lp G c k) (λR H n=>(rg R q0,rg R q5,rg R q92,rg R q93,rg R q94,H,n)) λih37=>.n))) .n))))))))
theorem ABe{d:EZ}(f:Dc d)(G:AY):KJ G 18 (ar2 (gJ d G)):=
 .mk ACR <| sf2 f (an:=ACZ d G) (λ_ _=>obs (by kernel_rfl)) λc g i H n k=>by kernel_rfl
def AEu:Ta:=λlp G c k=>(.s .n (.j (λR=>Qu lp G c k (rg R q0) (rg R q3)) (.s .n (.b (.l _ (XJ lp G c k) (λR H n=>(rg R q0,rg R q3,rg R q17,rg R q18,rg R q19,H,n)) λih61=>.n))) (.s .n (.j (λR=>J3 lp G c k (rg R q0) (rg R q3)) (.s .n (.b (.l _ (Oh lp G c k) (λR H n=>(rg R q0,rg R q3,rg R q42,rg R q43,rg R q44,H,n)) λih30=>.n))) (.j (λR=>QW lp G c k) (.s .n (.b (.l _ (XH lp G c k) (λR H n=>(rg R q0,rg R q73,rg R q74,rg R q75,H,n)) λih15=>.n))) .n)))))
theorem AE0{d:EZ}(f:Dc d)(G:AY):KJ G 19 (ar2 (jT d G)):=
 .mk ADB <| sf2 f (an:=AEu d G) (λ_ _=>obs (by kernel_rfl)) λc g i H n k=>by kernel_rfl
def ABZ:Ta:=λlp G c k=>.n
theorem ABY{d:EZ}(f:Dc d)(G:AY):KJ G 20 (xC (eX d G)):=
 .mk AB3 <| sf1 f (an:=ABZ d G) (λ_ _=>obs (by kernel_rfl)) λc g H n k=>by kernel_rfl
def ADq:Ta:=λlp G c k=>.n
theorem ADQ{d:EZ}(f:Dc d)(G:AY):KJ G 21 (ar2 (kE d G)):=
 .mk AEB <| sf2 f (an:=ADq d G) (λ_ _=>obs (by kernel_rfl)) λc g i H n k=>by kernel_rfl
def xB:Ta:=λlp G c k=>(.s .n (.s .n (.s .n (.j (λR=>Fq lp G c k (rg R q0) (rg R q3) (rg R q4)) .n (.s .n (.s .n (.s .n (.j (λR=>LZ lp G c k) (.b (.l _ (KC lp G c k) (λR H n=>(rg R q0,H,n)) λih30=>.n)) .n))))))))
theorem xu{d:EZ}(f:Dc d)(G:AY):KJ G 22 (xC (Y6 d G)):=
 .mk xX <| sf1 f (an:=xB d G) (λ_ _=>obs (by kernel_rfl)) λc g H n k=>by kernel_rfl
def yE:Ta:=λlp G c k=>(.s .n (.s .n (.j (λR=>OB lp G c k (rg R q9)) (.s .n (.b (.l _ (VN lp G c k) (λR H n=>(rg R q0,rg R q2,rg R q3,rg R q9,rg R q25,rg R q26,rg R q27,H,n)) λih9=>.n))) .n)))
theorem y9{d:EZ}(f:Dc d)(G:AY):KJ G 23 (ar4 (Z8 d G)):=
 .mk AAV <| sf4 f (an:=yE d G) (λ_ _=>obs (by kernel_rfl)) λc g i m p H n k=>by kernel_rfl
def P7:Ta:=λlp G c k=>.n
theorem IG{d:EZ}(f:Dc d)(G:AY):KJ G 24 (ar2 (ES d G)):=
 .mk PY <| sf2 f (an:=P7 d G) (λ_ _=>obs (by kernel_rfl)) λc g i H n k=>by kernel_rfl
def AQ0:Ta:=λlp G c k=>.n
theorem APx{d:EZ}(f:Dc d)(G:AY):KJ G 25 (xC (AKj d G)):=
 .mk AQH <| sf1 f (an:=AQ0 d G) (λ_ _=>obs (by kernel_rfl)) λc g H n k=>by kernel_rfl
def ACD:Ta:=λlp G c k=>.n
theorem ACC{d:EZ}(f:Dc d)(G:AY):KJ G 26 (ar3 (dB d G)):=
 .mk ACa <| sf3 f (an:=ACD d G) (λ_ _=>obs (by kernel_rfl)) λc g i m H n k=>by kernel_rfl
def AGd:Ta:=λlp G c k=>(.s .n (.s .n (.s .n (.j (λR=>E8 lp G c k (rg R q2) (rg R q3)) (.b (.l _ (Yw lp G c k) (λR H n=>(rg R q0,rg R q2,rg R q3,H,n)) λih6=>.n)) .n))))
theorem AFR{d:EZ}(f:Dc d)(G:AY):KJ G 27 (xC (qK d G)):=
 .mk AFV <| sf1 f (an:=AGd d G) (λ_ _=>obs (by kernel_rfl)) λc g H n k=>by kernel_rfl
def bD:Ta:=λlp G c k=>(.s .n (.s .n (.j (λR=>Nw lp G c k) (.s .n (.b (.l _ (NJ lp G c k) (λR H n=>(rg R q0,rg R q1,rg R q12,rg R q13,H,n)) λih6=>.n))) .n)))
theorem ay{d:EZ}(f:Dc d)(G:AY):KJ G 28 (ar2 (Rf d G)):=
 .mk ak <| sf2 f (an:=bD d G) (λ_ _=>obs (by kernel_rfl)) λc g i H n k=>by kernel_rfl
def AGl:Ta:=λlp G c k=>(.s .n (.s .n (.j (λR=>TL lp G c k (rg R q1)) (.s .n (.b (.l _ (Y9 lp G c k) (λR H n=>(rg R q1,rg R q32,rg R q33,rg R q34,H,n)) λih66=>.n))) (.j (λR=>Tv lp G c k) (.s .n (.b (.l _ (Yp lp G c k) (λR H n=>(rg R q51,rg R q52,rg R q53,H,n)) λih26=>(.s .n (.s .n (.j (λR=>TU lp G c k ih26 (rg R q51) (rg R q52) (rg R q53)) (.b (.s .n (.s .n (.s .n (.b (.l _ (Yy lp G c k ih26) (λR H n=>(rg R q51,rg R q52,rg R q53,rg R q75,rg R q76,rg R q77,H,n)) λih52=>.n)))))) .n)))))) .n))))
theorem AHg{d:EZ}(f:Dc d)(G:AY):KJ G 33 (xC (uh d G)):=
 .mk AHU <| sf1 f (an:=AGl d G) (λ_ _=>obs (by kernel_rfl)) λc g H n k=>by kernel_rfl
def AEV:Ta:=λlp G c k=>(.s .n (.s .n (.s .n (.j (λR=>QI lp G c k (rg R q1)) (.s .n (.b (.l _ (Jb lp G c k) (λR H n=>(rg R q1,rg R q3,rg R q50,rg R q51,rg R q52,H,n)) λih77=>.n))) (.s .n (.j (λR=>P5 lp G c k) (.s .n (.b (.l _ (OU lp G c k) (λR H n=>(rg R q3,rg R q76,rg R q77,rg R q78,H,n)) λih43=>.n))) .n))))))
theorem AC7{d:EZ}(f:Dc d)(G:AY):KJ G 34 (xC (iW d G)):=
 .mk AEs <| sf1 f (an:=AEV d G) (λ_ _=>obs (by kernel_rfl)) λc g H n k=>by kernel_rfl
def ABk:Ta:=λlp G c k=>(.s .n (.j (λR=>QH lp G c k (rg R q1)) (.s .n (.b (.l _ (NG lp G c k) (λR H n=>(rg R q1,rg R q28,rg R q29,rg R q30,H,n)) λih97=>.n))) (.j (λR=>QG lp G c k (rg R q1)) (.s .n (.b (.l _ (NC lp G c k) (λR H n=>(rg R q1,rg R q38,rg R q39,rg R q40,H,n)) λih73=>.n))) (.j (λR=>PZ lp G c k (rg R q1)) (.s .n (.b (.l _ (NM lp G c k) (λR H n=>(rg R q1,rg R q49,rg R q50,rg R q51,H,n)) λih60=>.n))) (.j (λR=>QM lp G c k (rg R q1)) (.s .n (.b (.l _ (NP lp G c k) (λR H n=>(rg R q1,rg R q60,rg R q61,rg R q62,H,n)) λih29=>.n))) (.j (λR=>QJ lp G c k) (.s .n (.b (.l _ (MW lp G c k) (λR H n=>(rg R q92,rg R q93,rg R q94,H,n)) λih10=>.n))) .n))))))
theorem ABL{d:EZ}(f:Dc d)(G:AY):KJ G 35 (xC (fA d G)):=
 .mk ABh <| sf1 f (an:=ABk d G) (λ_ _=>obs (by kernel_rfl)) λc g H n k=>by kernel_rfl
def AF3:Ta:=λlp G c k=>.n
theorem AFM{d:EZ}(f:Dc d)(G:AY):KJ G 36 (ar2 (og d G)):=
 .mk AGF <| sf2 f (an:=AF3 d G) (λ_ _=>obs (by kernel_rfl)) λc g i H n k=>by kernel_rfl
def ADW:Ta:=λlp G c k=>.n
theorem ADR{d:EZ}(f:Dc d)(G:AY):KJ G 37 (ar2 (jI d G)):=
 .mk AD9 <| sf2 f (an:=ADW d G) (λ_ _=>obs (by kernel_rfl)) λc g i H n k=>by kernel_rfl
def AEc:Ta:=λlp G c k=>.n
theorem ADj{d:EZ}(f:Dc d)(G:AY):KJ G 38 (ar2 (kJ d G)):=
 .mk ADO <| sf2 f (an:=AEc d G) (λ_ _=>obs (by kernel_rfl)) λc g i H n k=>by kernel_rfl
def ABo:Ta:=λlp G c k=>(.s .n (.s .n (.j (λR=>Pq lp G c k (rg R q6)) (.b (.l _ (WM lp G c k) (λR H n=>(rg R q0,rg R q1,rg R q6,H,n)) λih2=>.n)) .n)))
theorem ACP{d:EZ}(f:Dc d)(G:AY):KJ G 39 (ar2 (dQ d G)):=
 .mk ABT <| sf2 f (an:=ABo d G) (λ_ _=>obs (by kernel_rfl)) λc g i H n k=>by kernel_rfl
def Wn:Ta:=λlp G c k=>.n
theorem XE{d:EZ}(f:Dc d)(G:AY):KJ G 40 (ar2 (Lj d G)):=
 .mk WZ <| sf2 f (an:=Wn d G) (λ_ _=>obs (by kernel_rfl)) λc g i H n k=>by kernel_rfl
def AL1:Ta:=λlp G c k=>(.s .n (.j (λR=>Ub lp G c k (rg R q1)) (.s .n (.b (.l _ (kQ lp G c k) (λR H n=>(rg R q1,rg R q7,rg R q8,H,n)) λih29=>.n))) (.j (λR=>Zc lp G c k) (.s .n (.b (.l _ (pJ lp G c k) (λR H n=>(rg R q1,rg R q32,rg R q33,H,n)) λih7=>.n))) .n)))
theorem AL2{d:EZ}(f:Dc d)(G:AY):KJ G 41 (xC (AFt d G)):=
 .mk AL0 <| sf1 f (an:=AL1 d G) (λ_ _=>obs (by kernel_rfl)) λc g H n k=>by kernel_rfl
def ABl:Ta:=λlp G c k=>(.s .n (.j (λR=>QU lp G c k) (.s .n (.b (.l _ (Ws lp G c k) (λR H n=>(rg R q0,rg R q9,rg R q10,rg R q11,H,n)) λih3=>(.s .n (.s .n (.j (λR=>Hl lp G c k ih3 (rg R q0) (rg R q9) (rg R q10) (rg R q11)) .n .n)))))) .n))
theorem ABW{d:EZ}(f:Dc d)(G:AY):KJ G 42 (ar2 (gU d G)):=
 .mk ABa <| sf2 f (an:=ABl d G) (λ_ _=>obs (by kernel_rfl)) λc g i H n k=>by kernel_rfl
def ACb:Ta:=λlp G c k=>(.s .n (.s .n (.j (λR=>QL lp G c k (rg R q7)) (.s .n (.b (.l _ (XO lp G c k) (λR H n=>(rg R q0,rg R q2,rg R q7,rg R q23,rg R q24,rg R q25,H,n)) λih9=>.n))) .n)))
theorem ABq{d:EZ}(f:Dc d)(G:AY):KJ G 43 (ar3 (fP d G)):=
 .mk ACV <| sf3 f (an:=ACb d G) (λ_ _=>obs (by kernel_rfl)) λc g i m H n k=>by kernel_rfl
def AG1:Ta:=λlp G c k=>.n
theorem AG9{d:EZ}(f:Dc d)(G:AY):KJ G 44 (ar2 (vP d G)):=
 .mk AHc <| sf2 f (an:=AG1 d G) (λ_ _=>obs (by kernel_rfl)) λc g i H n k=>by kernel_rfl
def AVI:Ta:=λlp G c k=>.n
theorem AVJ{d:EZ}(f:Dc d)(G:AY):KJ G 45 (xC (ARR d G)):=
 .mk AVe <| sf1 f (an:=AVI d G) (λ_ _=>obs (by kernel_rfl)) λc g H n k=>by kernel_rfl
def AD2:Ta:=λlp G c k=>(.s .n (.s .n (.j (λR=>QF lp G c k) (.s .n (.b (.l _ (WX lp G c k) (λR H n=>(rg R q0,rg R q3,rg R q24,rg R q25,rg R q26,H,n)) λih12=>.n))) .n)))
theorem ADn{d:EZ}(f:Dc d)(G:AY):KJ G 46 (ar2 (kL d G)):=
 .mk AEC <| sf2 f (an:=AD2 d G) (λ_ _=>obs (by kernel_rfl)) λc g i H n k=>by kernel_rfl
def sS:Ta:=λlp G c k=>(.s .n (.s .n (.s .n (.s .n (.s .n (.s .n (.j (λR=>Hg lp G c k (rg R q0) (rg R q1) (rg R q5) (rg R q7) (rg R q9)) (.s .n (.b (.l _ (Gl lp G c k) (λR H n=>(rg R q0,rg R q1,rg R q5,rg R q7,rg R q9,rg R q63,rg R q64,rg R q65,H,n)) λih93=>.n))) (.j (λR=>Eu lp G c k (rg R q0) (rg R q1) (rg R q9)) (.s .n (.b (.l _ (Jl lp G c k) (λR H n=>(rg R q0,rg R q1,rg R q7,rg R q9,rg R AeR,rg R AfT,rg R Aez,H,n)) λih53=>.n))) (.j (λR=>Hf lp G c k) .n .n)))))))))
theorem rP{d:EZ}(f:Dc d)(G:AY):KJ G 47 (ar3 (Xt d G)):=
 .mk uP <| sf3 f (an:=sS d G) (λ_ _=>obs (by kernel_rfl)) λc g i m H n k=>by kernel_rfl
def xY:Ta:=λlp G c k=>.n
theorem xH{d:EZ}(f:Dc d)(G:AY):KJ G 48 (xC (Yj d G)):=
 .mk wG <| sf1 f (an:=xY d G) (λ_ _=>obs (by kernel_rfl)) λc g H n k=>by kernel_rfl
def tC:Ta:=λlp G c k=>(.s .n (.s .n (.s (.s .n (.b (.s .n (.c .n (.s .n (.c .n (.s .n (.c .n (.s .n (.c .n (.s .n (.c .n (.j (λR=>Ba lp G c k (rg R q0) (rg R q1) (rg R q5) (rg R q7) (rg R q8) (rg R q20) (rg R q80)) .n (.c .n (.j (λR=>DR lp G c k (rg R q0) (rg R q1) (rg R q5) (rg R q7) (rg R q8) (rg R q20) (rg R q98)) .n (.c .n (.s .n (.c .n (.s .n (.c .n (.j (λR=>DN lp G c k (rg R q0) (rg R q1) (rg R q5) (rg R q7) (rg R q8) (rg R q20) (rg R Agt)) .n .n))))))))))))))))))))) .n)))
theorem uS{d:EZ}(f:Dc d)(G:AY):KJ G 49 (ar3 (Xo d G)):=
 .mk qw <| sf3 f (an:=tC d G) (λ_ _=>obs (by kernel_rfl)) λc g i m H n k=>by kernel_rfl
def oG:Ta:=λlp G c k=>.n
theorem pX{d:EZ}(f:Dc d)(G:AY):KJ G 50 (ar3 (Wj d G)):=
 .mk nG <| sf3 f (an:=oG d G) (λ_ _=>obs (by kernel_rfl)) λc g i m H n k=>by kernel_rfl
def AIx:Ta:=λlp G c k=>.n
theorem AIv{d:EZ}(f:Dc d)(G:AY):KJ G 51 (xC (y7 d G)):=
 .mk AIy <| sf1 f (an:=AIx d G) (λ_ _=>obs (by kernel_rfl)) λc g H n k=>by kernel_rfl
def AB4:Ta:=λlp G c k=>(.s .n (.j (λR=>QB lp G c k (rg R q4)) (.s .n (.b (.l _ (WR lp G c k) (λR H n=>(rg R q1,rg R q4,rg R q9,rg R q10,rg R q11,H,n)) λih9=>.n))) .n))
theorem ABd{d:EZ}(f:Dc d)(G:AY):KJ G 52 (ar2 (dP d G)):=
 .mk AB7 <| sf2 f (an:=AB4 d G) (λ_ _=>obs (by kernel_rfl)) λc g i H n k=>by kernel_rfl
def SH:Ta:=λlp G c k=>(.s .n (.j (λR=>DK lp G c k) (.s .n (.b (.l _ (Ht lp G c k) (λR H n=>(rg R q0,rg R q1,rg R q7,rg R q8,H,n)) λih3=>.n))) .n))
theorem Il{d:EZ}(f:Dc d)(G:AY):KJ G 53 (ar2 (FB d G)):=
 .mk SS <| sf2 f (an:=SH d G) (λ_ _=>obs (by kernel_rfl)) λc g i H n k=>by kernel_rfl
def AEX:Ta:=λlp G c k=>(.s .n (.s .n (.j (λR=>KL lp G c k (rg R q6)) (.s .n (.b (.l _ (XK lp G c k) (λR H n=>(rg R q2,rg R q6,rg R q8,rg R q20,rg R q21,rg R q22,H,n)) λih14=>.n))) .n)))
theorem ADa{d:EZ}(f:Dc d)(G:AY):KJ G 54 (ar3 (kM d G)):=
 .mk ADJ <| sf3 f (an:=AEX d G) (λ_ _=>obs (by kernel_rfl)) λc g i m H n k=>by kernel_rfl
def AE5:Ta:=λlp G c k=>.n
theorem AEv{d:EZ}(f:Dc d)(G:AY):KJ G 55 (ar2 (iZ d G)):=
 .mk ADg <| sf2 f (an:=AE5 d G) (λ_ _=>obs (by kernel_rfl)) λc g i H n k=>by kernel_rfl
def AGG:Ta:=λlp G c k=>.n
theorem AFr{d:EZ}(f:Dc d)(G:AY):KJ G 56 (xC (oJ d G)):=
 .mk AGY <| sf1 f (an:=AGG d G) (λ_ _=>obs (by kernel_rfl)) λc g H n k=>by kernel_rfl
def AEz:Ta:=λlp G c k=>(.s .n (.s .n (.b (.s .n (.c .n (.s .n (.c .n (.s .n (.c .n (.s .n (.c .n (.s .n (.c .n (.s .n (.c .n (.s .n (.c .n (.s .n (.c .n (.s .n (.c .n (.s .n (.c .n (.s .n (.c .n (.j (λR=>BQ lp G c k (rg R q0) (rg R q1) (rg R q5) (rg R AhR)) .n .n))))))))))))))))))))))))))
theorem AE2{d:EZ}(f:Dc d)(G:AY):KJ G 57 (ar3 (kS d G)):=
 .mk AEk <| sf3 f (an:=AEz d G) (λ_ _=>obs (by kernel_rfl)) λc g i m H n k=>by kernel_rfl
def AGI:Ta:=λlp G c k=>.n
theorem AF5{d:EZ}(f:Dc d)(G:AY):KJ G 58 (ar3 (oQ d G)):=
 .mk AFJ <| sf3 f (an:=AGI d G) (λ_ _=>obs (by kernel_rfl)) λc g i m H n k=>by kernel_rfl
def AE3:Ta:=λlp G c k=>.n
theorem ADC{d:EZ}(f:Dc d)(G:AY):KJ G 59 (ar3 (jl d G)):=
 .mk AEA <| sf3 f (an:=AE3 d G) (λ_ _=>obs (by kernel_rfl)) λc g i m H n k=>by kernel_rfl
def AFg:Ta:=λlp G c k=>.n
theorem AFG{d:EZ}(f:Dc d)(G:AY):KJ G 68 (xC (qB d G)):=
 .mk AFn <| sf1 f (an:=AFg d G) (λ_ _=>obs (by kernel_rfl)) λc g H n k=>by kernel_rfl
def AOc:Ta:=λlp G c k=>.n
theorem AN7{d:EZ}(f:Dc d)(G:AY):KJ G 69 (xC (AId d G)):=
 .mk ANf <| sf1 f (an:=AOc d G) (λ_ _=>obs (by kernel_rfl)) λc g H n k=>by kernel_rfl
def yR:Ta:=λlp G c k=>.n
theorem AAX{d:EZ}(f:Dc d)(G:AY):KJ G 70 (xC (aW d G)):=
 .mk AAr <| sf1 f (an:=yR d G) (λ_ _=>obs (by kernel_rfl)) λc g H n k=>by kernel_rfl
def ALK:Ta:=λlp G c k=>.n
theorem AKm{d:EZ}(f:Dc d)(G:AY):KJ G 71 (xC (ACv d G)):=
 .mk AJy <| sf1 f (an:=ALK d G) (λ_ _=>obs (by kernel_rfl)) λc g H n k=>by kernel_rfl
def AOy:Ta:=λlp G c k=>.n
theorem AOl{d:EZ}(f:Dc d)(G:AY):KJ G 72 (xC (AHr d G)):=
 .mk AOI <| sf1 f (an:=AOy d G) (λ_ _=>obs (by kernel_rfl)) λc g H n k=>by kernel_rfl
def AHH:Ta:=λlp G c k=>.n
theorem AHh{d:EZ}(f:Dc d)(G:AY):KJ G 73 (xC (vI d G)):=
 .mk AHP <| sf1 f (an:=AHH d G) (λ_ _=>obs (by kernel_rfl)) λc g H n k=>by kernel_rfl
def AIs:Ta:=λlp G c k=>.n
theorem AIz{d:EZ}(f:Dc d)(G:AY):KJ G 74 (xC (AAy d G)):=
 .mk AI5 <| sf1 f (an:=AIs d G) (λ_ _=>obs (by kernel_rfl)) λc g H n k=>by kernel_rfl
def AAf:Ta:=λlp G c k=>.n
theorem AAs{d:EZ}(f:Dc d)(G:AY):KJ G 75 (ar3 (Zt d G)):=
 .mk AAY <| sf3 f (an:=AAf d G) (λ_ _=>obs (by kernel_rfl)) λc g i m H n k=>by kernel_rfl
def Ye:Ta:=λlp G c k=>(.s .n (.j (λR=>Gy lp G c k) (.s .n (.b (.l _ (KW lp G c k) (λR H n=>(rg R q0,rg R q1,rg R q7,rg R q8,H,n)) λih3=>.n))) .n))
theorem Yt{d:EZ}(f:Dc d)(G:AY):KJ G 76 (ar2 (PO d G)):=
 .mk Yz <| sf2 f (an:=Ye d G) (λ_ _=>obs (by kernel_rfl)) λc g i H n k=>by kernel_rfl
def AEb:Ta:=λlp G c k=>(.s .n (.j (λR=>Q7 lp G c k (rg R q4)) (.s .n (.b (.l _ (X3 lp G c k) (λR H n=>(rg R q1,rg R q4,rg R q9,rg R q10,rg R q11,H,n)) λih9=>.n))) .n))
theorem AEL{d:EZ}(f:Dc d)(G:AY):KJ G 77 (ar2 (kC d G)):=
 .mk ADm <| sf2 f (an:=AEb d G) (λ_ _=>obs (by kernel_rfl)) λc g i H n k=>by kernel_rfl
def Vq:Ta:=λlp G c k=>(.s .n (.s .n (.j (λR=>FQ lp G c k) (.s .n (.b (.l _ (JB lp G c k) (λR H n=>(rg R q0,rg R q1,rg R q12,rg R q13,H,n)) λih6=>.n))) .n)))
theorem Vp{d:EZ}(f:Dc d)(G:AY):KJ G 78 (ar2 (KY d G)):=
 .mk Vg <| sf2 f (an:=Vq d G) (λ_ _=>obs (by kernel_rfl)) λc g i H n k=>by kernel_rfl
def AJo:Ta:=λlp G c k=>(.s .n (.j (λR=>NT lp G c k (rg R q6)) .n .n))
theorem AJz{d:EZ}(f:Dc d)(G:AY):KJ G 79 (ar3 (ACr d G)):=
 .mk AKr <| sf3 f (an:=AJo d G) (λ_ _=>obs (by kernel_rfl)) λc g i m H n k=>by kernel_rfl
def Vh:Ta:=λlp G c k=>.n
theorem Vy{d:EZ}(f:Dc d)(G:AY):KJ G 80 (xC (LM d G)):=
 .mk Vt <| sf1 f (an:=Vh d G) (λ_ _=>obs (by kernel_rfl)) λc g H n k=>by kernel_rfl
def ARO:Ta:=λlp G c k=>.n
theorem ARB{d:EZ}(f:Dc d)(G:AY):KJ G 81 (ar0 (AJ4 d G)):=
 .mk APr <| sf0 f (an:=ARO d G) (λ_ _=>obs (by kernel_rfl)) λc H n k=>by kernel_rfl
def rH:Ta:=λlp G c k=>.n
theorem rC{d:EZ}(f:Dc d)(G:AY):KJ G 82 (ar3 (X0 d G)):=
 .mk uI <| sf3 f (an:=rH d G) (λ_ _=>obs (by kernel_rfl)) λc g i m H n k=>by kernel_rfl
def ALd:Ta:=λlp G c k=>.n
theorem AKz{d:EZ}(f:Dc d)(G:AY):KJ G 83 (ar0 (ACk d G)):=
 .mk AJk <| sf0 f (an:=ALd d G) (λ_ _=>obs (by kernel_rfl)) λc H n k=>by kernel_rfl
def AAF:Ta:=λlp G c k=>.n
theorem yh{d:EZ}(f:Dc d)(G:AY):KJ G 84 (xC (Z5 d G)):=
 .mk AAC <| sf1 f (an:=AAF d G) (λ_ _=>obs (by kernel_rfl)) λc g H n k=>by kernel_rfl
def wR:Ta:=λlp G c k=>(.s .n (.j (λR=>Nj lp G c k) (.s .n (.b (.l _ (UU lp G c k) (λR H n=>(rg R q0,rg R q1,rg R q2,rg R q7,H,n)) λih4=>.n))) .n))
theorem wC{d:EZ}(f:Dc d)(G:AY):KJ G 85 (ar3 (ZE d G)):=
 .mk wM <| sf3 f (an:=wR d G) (λ_ _=>obs (by kernel_rfl)) λc g i m H n k=>by kernel_rfl
def ADT:Ta:=λlp G c k=>.n
theorem ADv{d:EZ}(f:Dc d)(G:AY):KJ G 86 (xC (jP d G)):=
 .mk ADb <| sf1 f (an:=ADT d G) (λ_ _=>obs (by kernel_rfl)) λc g H n k=>by kernel_rfl
def lU:Ta:=λlp G c k=>(.s .n (.s (.s .n (.b (.s .n (.c .n (.s .n (.c .n (.j (λR=>Df lp G c k (rg R q0) (rg R q1) (rg R q5) (rg R q14) (rg R q66)) .n (.c (.s .n (.s .n (.j (λR=>Ci lp G c k (rg R q0) (rg R q1) (rg R q7) (rg R q8) (rg R q9)) .n .n))) (.s .n (.c .n (.s .n (.c .n (.j (λR=>DU lp G c k (rg R q0) (rg R q1) (rg R q5) (rg R Ahi)) .n .n))))))))))))) .n))
theorem mG{d:EZ}(f:Dc d)(G:AY):KJ G 87 (ar3 (VR d G)):=
 .mk lI <| sf3 f (an:=lU d G) (λ_ _=>obs (by kernel_rfl)) λc g i m H n k=>by kernel_rfl
def ATW:Ta:=λlp G c k=>.n
theorem ASt{d:EZ}(f:Dc d)(G:AY):KJ G 88 (xC (AM4 d G)):=
 .mk ASU <| sf1 f (an:=ATW d G) (λ_ _=>obs (by kernel_rfl)) λc g H n k=>by kernel_rfl
def AFj:Ta:=λlp G c k=>(.s .n (.s .n (.b (.s .n (.c .n (.s .n (.c .n (.s .n (.c .n (.s .n (.c .n (.s .n (.c .n (.j (λR=>Fz lp G c k (rg R q0) (rg R q1) (rg R q2) (rg R q3) (rg R q8) (rg R q9) (rg R q93)) .n .n))))))))))))))
theorem AF8{d:EZ}(f:Dc d)(G:AY):KJ G 89 (ar4 (oh d G)):=
 .mk AFU <| sf4 f (an:=AFj d G) (λ_ _=>obs (by kernel_rfl)) λc g i m p H n k=>by kernel_rfl
def AAM:Ta:=λlp G c k=>(.s .n (.s .n (.b (.s .n (.c .n (.s .n (.c .n (.j (λR=>EU lp G c k (rg R q0) (rg R q1) (rg R q5) (rg R q14) (rg R q52)) .n (.c .n (.j (λR=>EX lp G c k (rg R q0) (rg R q1) (rg R q5) (rg R q14) (rg R AhM)) .n (.c (.s .n (.s .n (.j (λR=>F7 lp G c k (rg R q0) (rg R q1) (rg R q5) (rg R q9) (rg R q10)) .n (.s .n (.j (λR=>F6 lp G c k (rg R q0) (rg R q9) (rg R q11)) .n .n))))) .n)))))))))))
theorem yL{d:EZ}(f:Dc d)(G:AY):KJ G 90 (ar3 (Zu d G)):=
 .mk yY <| sf3 f (an:=AAM d G) (λ_ _=>obs (by kernel_rfl)) λc g i m H n k=>by kernel_rfl
def XW:Ta:=λlp G c k=>.n
theorem Xh{d:EZ}(f:Dc d)(G:AY):KJ G 91 (xC (Np d G)):=
 .mk Xg <| sf1 f (an:=XW d G) (λ_ _=>obs (by kernel_rfl)) λc g H n k=>by kernel_rfl
def zI:Ta:=λlp G c k=>(.s .n (.s .n (.j (λR=>OH lp G c k) (.s .n (.b (.l _ (VO lp G c k) (λR H n=>(rg R q0,rg R q2,rg R q17,rg R q18,rg R q19,H,n)) λih6=>.n))) .n)))
theorem AAn{d:EZ}(f:Dc d)(G:AY):KJ G 113 (ar3 (aI d G)):=
 .mk yU <| sf3 f (an:=zI d G) (λ_ _=>obs (by kernel_rfl)) λc g i m H n k=>by kernel_rfl
def AD3:Ta:=λlp G c k=>.n
theorem AEx{d:EZ}(f:Dc d)(G:AY):KJ G 114 (ar3 (kD d G)):=
 .mk ADt <| sf3 f (an:=AD3 d G) (λ_ _=>obs (by kernel_rfl)) λc g i m H n k=>by kernel_rfl
def pI:Ta:=λlp G c k=>.n
theorem oP{d:EZ}(f:Dc d)(G:AY):KJ G 115 (ar3 (XR d G)):=
 .mk nI <| sf3 f (an:=pI d G) (λ_ _=>obs (by kernel_rfl)) λc g i m H n k=>by kernel_rfl
def ACW:Ta:=λlp G c k=>.n
theorem AB8{d:EZ}(f:Dc d)(G:AY):KJ G 116 (ar4 (fH d G)):=
 .mk ABu <| sf4 f (an:=ACW d G) (λ_ _=>obs (by kernel_rfl)) λc g i m p H n k=>by kernel_rfl
def AEG:Ta:=λlp G c k=>(.s .n (.s .n (.s .n (.j (λR=>Ry lp G c k (rg R q5)) (.s .n (.b (.l _ (Xp lp G c k) (λR H n=>(rg R q0,rg R q5,rg R q21,rg R q22,rg R q23,H,n)) λih9=>.n))) .n))))
theorem AE4{d:EZ}(f:Dc d)(G:AY):KJ G 117 (ar2 (ji d G)):=
 .mk AE6 <| sf2 f (an:=AEG d G) (λ_ _=>obs (by kernel_rfl)) λc g i H n k=>by kernel_rfl
def ACN:Ta:=λlp G c k=>.n
theorem ACU{d:EZ}(f:Dc d)(G:AY):KJ G 118 (ar3 (iI d G)):=
 .mk AB5 <| sf3 f (an:=ACN d G) (λ_ _=>obs (by kernel_rfl)) λc g i m H n k=>by kernel_rfl
def ADK:Ta:=λlp G c k=>(.s .n (.s .n (.s .n (.s .n (.s .n (.s .n (.s .n (.j (λR=>IB lp G c k (rg R q0) (rg R q1) (rg R q5) (rg R q6) (rg R q7) (rg R q8) (rg R q9)) .n .n))))))))
theorem AEN{d:EZ}(f:Dc d)(G:AY):KJ G 119 (ar3 (jy d G)):=
 .mk ADH <| sf3 f (an:=ADK d G) (λ_ _=>obs (by kernel_rfl)) λc g i m H n k=>by kernel_rfl
def AGx:Ta:=λlp G c k=>.n
theorem AG6{d:EZ}(f:Dc d)(G:AY):KJ G 145 (xC (vM d G)):=
 .mk AHb <| sf1 f (an:=AGx d G) (λ_ _=>obs (by kernel_rfl)) λc g H n k=>by kernel_rfl
def AES:Ta:=λlp G c k=>(.s .n (.s .n (.s .n (.s .n (.j (λR=>Po lp G c k) (.s .n (.b (.l _ (WG lp G c k) (λR H n=>(rg R q2,rg R q12,rg R q40,rg R q41,rg R q42,H,n)) λih25=>.n))) .n)))))
theorem ADZ{d:EZ}(f:Dc d)(G:AY):KJ G 146 (ar3 (iV d G)):=
 .mk ADe <| sf3 f (an:=AES d G) (λ_ _=>obs (by kernel_rfl)) λc g i m H n k=>by kernel_rfl
theorem go0{G:AY}{f:Nat}{s:Au->Heap->Nat->KV->Prop}{H:Heap}{n:Nat}{k:KV}(z:KJ G f (ar0 s))(h:s (Runs F G) H n k):Runs F G f [] H n k:=by
 obtain⟨p,o⟩:=z
 exact AGo p o h
theorem go1{G:AY}{f:Nat}{s:Au->V->Heap->Nat->KV->Prop}{d:V}{H:Heap}{n:Nat}{k:KV}(z:KJ G f (xC s))(h:s (Runs F G) d H n k):Runs F G f [d] H n k:=by
 obtain⟨p,o⟩:=z
 exact AGo p o h
theorem go2{G:AY}{f:Nat}{s:Au->V->V->Heap->Nat->KV->Prop}{d g:V}{H:Heap}{n:Nat}{k:KV}(z:KJ G f (ar2 s))(h:s (Runs F G) d g H n k):Runs F G f [d,g] H n k:=by
 obtain⟨p,o⟩:=z
 exact AGo p o h
theorem go3{G:AY}{f:Nat}{s:Au->V->V->V->Heap->Nat->KV->Prop}{d g i:V}{H:Heap}{n:Nat}{k:KV}(z:KJ G f (ar3 s))(h:s (Runs F G) d g i H n k):Runs F G f [d,g,i] H n k:=by
 obtain⟨p,o⟩:=z
 exact AGo p o h
theorem go4{G:AY}{f:Nat}{s:Au->V->V->V->V->Heap->Nat->KV->Prop}{d g i m:V}{H:Heap}{n:Nat}{k:KV}(z:KJ G f (ar4 s))(h:s (Runs F G) d g i m H n k):Runs F G f [d,g,i,m] H n k:=by
 obtain⟨p,o⟩:=z
 exact AGo p o h
theorem go5{G:AY}{f:Nat}{s:Au->V->V->V->V->V->Heap->Nat->KV->Prop}{d g i m q:V}{H:Heap}{n:Nat}{k:KV}(z:KJ G f (ar5 s))(h:s (Runs F G) d g i m q H n k):Runs F G f [d,g,i,m,q] H n k:=by
 obtain⟨p,o⟩:=z
 exact AGo p o h
end Go.RL
