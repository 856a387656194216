/- Part of a proof; nothing is assumed. -/
import Derived.Test.YtlhlldpfafhpbaaGreatDoorPlain
import Derived.Test.YtlhlldpfafhpbaaGreatDoorCode
set_option linter.unusedVariables false
set_option linter.unusedSimpArgs false
noncomputable section
namespace Go.RL
open Go.BN
set_option maxRecDepth 100000
abbrev Ta:=Ma->AQ->Am->KV->An
inductive DF(G:AQ)(n:Nat)(s:SF):Prop where
 |mk {af:AF} (h:T.get F n=some af) (o:ADL G af s):DF G n s
def Mj:Ta:=λlp G c k=>(.s .n (.s .n (.s .n (.s .n (.s .n (.s .n (.s .n (.s .n (.s .n (.j (λR=>Ap lp G c k (rg R q8) (rg R q10) (rg R q11)) .n .n))))))))))
def pT:Ta:=λlp G c k=>.n
def Ni:Ta:=λlp G c k=>(.s .n (.s .n (.j (λR=>GN lp G c k (rg R q6)) (.s .n (.b (.l _ (Hl lp G c k) (λR H n=>(rg R q0,rg R q6,rg R q12,rg R q13,rg R cq,H,n)) λih4=>.n))) .n)))
def Uk:Ta:=λlp G c k=>(.s .n (.s .n (.s .n (.s .n (.j (λR=>Jx lp G c k (rg R q0) (rg R q4) (rg R q5)) (.s .n (.b (.l _ (Lv lp G c k) (λR H n=>(rg R q0,rg R q4,rg R q5,rg R ph,rg R sj,rg R kw,H,n)) λih33=>.n))) (.s .n (.j (λR=>Ir lp G c k (rg R q5)) (.s .n (.b (.l _ (IP lp G c k) (λR H n=>(rg R q5,rg R q73,rg R q74,rg R q75,H,n)) λih13=>.n))) .n)))))))
def AH1:Ta:=λlp G c k=>(.s .n (.s .n (.j (λR=>S7 lp G c k (rg R q2) (rg R q3)) (.s .n (.b (.l _ (gR lp G c k) (λR H n=>(rg R q2,rg R q3,rg R cZ,rg R q16,rg R oG,H,n)) λih20=>.n))) .n)))
def AFz:Ta:=λlp G c k=>(.s .n (.s .n (.j (λR=>Yw lp G c k (rg R q3)) (.s .n (.b (.l _ (fP lp G c k) (λR H n=>(rg R q3,rg R q10,rg R q11,rg R q12,H,n)) λih7=>.n))) .n)))
def ACk:Ta:=λlp G c k=>(.s .n (.s .n (.s .n (.s .n (.j (λR=>Oy lp G c k (rg R q4) (rg R q6)) (.s .n (.b (.l _ (Sf lp G c k) (λR H n=>(rg R q4,rg R q6,rg R kw,rg R q22,rg R q23,H,n)) λih25=>.n))) .n)))))
def AGy:Ta:=λlp G c k=>.n
def nM:Ta:=λlp G c k=>(.s .n (.s .n (.s .n (.j (λR=>NI lp G c k (rg R q5)) (.s .n (.b (.l _ (SO lp G c k) (λR H n=>(rg R q4,rg R q5,rg R q13,rg R cq,rg R cZ,H,n)) λih5=>.n))) .n))))
def iv:Ta:=λlp G c k=>(.s .n (.s .n (.s .n (.s .n (.s .n (.s .n (.s .n (.j (λR=>EE lp G c k (rg R q3) (rg R q4) (rg R q5)) .n (.j (λR=>EC lp G c k (rg R q3) (rg R q4) (rg R q5)) .n .n)))))))))
def mZ:Ta:=λlp G c k=>(.s .n (.s .n (.j (λR=>xB lp G c k (rg R q3)) (.s .n (.b (.l _ (zE lp G c k) (λR H n=>(rg R q3,rg R q7,rg R q8,rg R q9,H,n)) λih5=>.n))) .n)))
def jx:Ta:=λlp G c k=>(.s .n (.s .n (.j (λR=>KU lp G c k) (.s .n (.b (.l _ (JN lp G c k) (λR H n=>(rg R q1,rg R q30,rg R wY,rg R q32,H,n)) λih24=>(.s .n (.s .n (.j (λR=>DW lp G c k ih24 (rg R q1) (rg R q30) (rg R wY) (rg R q32)) (.b (.s .n (.s .n (.s .n (.j (λR=>DZ lp G c k ih24 (rg R q1) (rg R q4) (rg R q6) (rg R q30) (rg R wY) (rg R q32)) .n (.s .n (.s .n (.b (.l _ (Jm lp G c k ih24) (λR H n=>(rg R q1,rg R q4,rg R q30,rg R wY,rg R q32,rg R q83,rg R q84,rg R q85,H,n)) λih71=>.n))))))))) .n)))))) .n)))
def mD:Ta:=λlp G c k=>(.s .n (.s .n (.s .n (.s .n (.s .n (.s .n (.j (λR=>Gq lp G c k (rg R q0) (rg R q5)) (.s .n (.b (.l _ (JP lp G c k) (λR H n=>(rg R q0,rg R q5,rg R q67,rg R q68,rg R q69,H,n)) λih74=>.n))) (.j (λR=>KD lp G c k) (.s .n (.b (.l _ (Pm lp G c k) (λR H n=>(rg R q0,rg R q5,rg R q92,rg R q93,rg R q94,H,n)) λih37=>.n))) .n))))))))
def Pi:Ta:=λlp G c k=>(.s .n (.j (λR=>GQ lp G c k (rg R q0) (rg R q3)) (.s .n (.b (.l _ (HN lp G c k) (λR H n=>(rg R q0,rg R q3,rg R oG,rg R vy,rg R ph,H,n)) λih61=>.n))) (.s .n (.j (λR=>EO lp G c k (rg R q0) (rg R q3)) (.s .n (.b (.l _ (FL lp G c k) (λR H n=>(rg R q0,rg R q3,rg R q42,rg R q43,rg R q44,H,n)) λih30=>.n))) (.j (λR=>Fu lp G c k) (.s .n (.b (.l _ (HK lp G c k) (λR H n=>(rg R q0,rg R q73,rg R q74,rg R q75,H,n)) λih15=>.n))) .n)))))
def Ro:Ta:=λlp G c k=>.n
def AF9:Ta:=λlp G c k=>(.s .n (.s .n (.j (λR=>Wj lp G c k (rg R q2) (rg R q3)) (.s .n (.b (.l _ (dU lp G c k) (λR H n=>(rg R q2,rg R q3,rg R cq,rg R cZ,rg R q16,H,n)) λih18=>.n))) .n)))
def pb:Ta:=λlp G c k=>.n
def Nd:Ta:=λlp G c k=>.n
def Ig:Ta:=λlp G c k=>.n
def yQ:Ta:=λlp G c k=>.n
def AWc:Ta:=λlp G c k=>.n
def kj:Ta:=λlp G c k=>(.s .n (.s .n (.j (λR=>FA lp G c k (rg R q3) (rg R q4) (rg R q5)) .n (.j (λR=>HV lp G c k (rg R q3) (rg R q4) (rg R q5)) (.s .n (.b (.l _ (Jc lp G c k) (λR H n=>(rg R q3,rg R q4,rg R q5,rg R kw,rg R q22,rg R q23,H,n)) λih20=>.n))) .n))))
def wL:Ta:=λlp G c k=>.n
def AUq:Ta:=λlp G c k=>(.s .n (.s .n (.j (λR=>Lt lp G c k (rg R q6)) (.b (.l _ (Qu lp G c k) (λR H n=>(rg R q0,rg R q1,rg R q6,H,n)) λih2=>.n)) .n)))
def pB:Ta:=λlp G c k=>.n
def kr:Ta:=λlp G c k=>(.s .n (.s .n (.j (λR=>Lc lp G c k (rg R q7)) (.s .n (.b (.l _ (RM lp G c k) (λR H n=>(rg R q0,rg R q2,rg R q7,rg R q23,rg R q24,rg R tx,H,n)) λih9=>.n))) .n)))
def nR:Ta:=λlp G c k=>(.s .n (.s .n (.j (λR=>xB lp G c k (rg R q3)) (.s .n (.b (.l _ (zE lp G c k) (λR H n=>(rg R q3,rg R q7,rg R q8,rg R q9,H,n)) λih5=>.n))) .n)))
def xq:Ta:=λlp G c k=>(.s .n (.s .n (.s .n (.s .n (.s .n (.s .n (.j (λR=>RB lp G c k (rg R q3) (rg R q4) (rg R q5) (rg R q9)) (.s .n (.b (.l _ (WW lp G c k) (λR H n=>(rg R q3,rg R q4,rg R q5,rg R q9,rg R q52,rg R q53,rg R q54,H,n)) λih61=>.n))) .n)))))))
def AKO:Ta:=λlp G c k=>.n
def rh:Ta:=λlp G c k=>.n
def XN:Ta:=λlp G c k=>(.s .n (.s .n (.s .n (.j (λR=>Cu lp G c k (rg R q0) (rg R q5) (rg R q10) (rg R q12) (rg R q13)) .n (.s .n (.j (λR=>D1 lp G c k (rg R q0) (rg R q10) (rg R q12) (rg R q13)) (.s .n (.b (.l _ (Jw lp G c k) (λR H n=>(rg R q0,rg R q10,rg R q12,rg R q13,rg R q32,rg R sb,rg R q34,H,n)) λih33=>.n))) .n))))))
def AF2:Ta:=λlp G c k=>.n
def ZL:Ta:=λlp G c k=>.n
def oV:Ta:=λlp G c k=>(.s .n (.s .n (.s .n (.j (λR=>Lx lp G c k (rg R q1)) (.s .n (.b (.l _ (G5 lp G c k) (λR H n=>(rg R q1,rg R q3,rg R q50,rg R q51,rg R q52,H,n)) λih77=>.n))) (.s .n (.j (λR=>LZ lp G c k) (.s .n (.b (.l _ (Kh lp G c k) (λR H n=>(rg R q3,rg R q76,rg R q77,rg R q78,H,n)) λih43=>.n))) .n))))))
def kU:Ta:=λlp G c k=>(.s .n (.j (λR=>Lp lp G c k (rg R q1)) (.s .n (.b (.l _ (JL lp G c k) (λR H n=>(rg R q1,rg R q28,rg R q29,rg R q30,H,n)) λih97=>.n))) (.j (λR=>LN lp G c k (rg R q1)) (.s .n (.b (.l _ (JS lp G c k) (λR H n=>(rg R q1,rg R q38,rg R q39,rg R q40,H,n)) λih73=>.n))) (.j (λR=>LG lp G c k (rg R q1)) (.s .n (.b (.l _ (JT lp G c k) (λR H n=>(rg R q1,rg R q49,rg R q50,rg R q51,H,n)) λih60=>.n))) (.j (λR=>LQ lp G c k (rg R q1)) (.s .n (.b (.l _ (JU lp G c k) (λR H n=>(rg R q1,rg R q60,rg R q61,rg R q62,H,n)) λih29=>.n))) (.j (λR=>LO lp G c k) (.s .n (.b (.l _ (Ja lp G c k) (λR H n=>(rg R q92,rg R q93,rg R q94,H,n)) λih10=>.n))) .n))))))
def qW:Ta:=λlp G c k=>.n
def oH:Ta:=λlp G c k=>.n
def QW:Ta:=λlp G c k=>.n
def AAX:Ta:=λlp G c k=>(.s .n (.j (λR=>Ot lp G c k (rg R q1)) (.s .n (.b (.l _ (X4 lp G c k) (λR H n=>(rg R q1,rg R q7,rg R q8,H,n)) λih29=>.n))) (.j (λR=>T6 lp G c k) (.s .n (.b (.l _ (aF lp G c k) (λR H n=>(rg R q1,rg R q32,rg R sb,H,n)) λih7=>.n))) .n)))
def lD:Ta:=λlp G c k=>(.s .n (.j (λR=>Le lp G c k) (.s .n (.b (.l _ (Qa lp G c k) (λR H n=>(rg R q0,rg R q9,rg R q10,rg R q11,H,n)) λih3=>(.s .n (.s .n (.j (λR=>FF lp G c k ih3 (rg R q0) (rg R q9) (rg R q10) (rg R q11)) .n .n)))))) .n))
def gZ:Ta:=λlp G c k=>(.s .n (.s .n (.j (λR=>Gt lp G c k (rg R q9)) (.s .n (.b (.l _ (PX lp G c k) (λR H n=>(rg R q0,rg R q2,rg R q3,rg R q9,rg R tx,rg R nw,rg R q27,H,n)) λih9=>.n))) .n)))
def tj:Ta:=λlp G c k=>.n
def O4:Ta:=λlp G c k=>(.s .n (.s .n (.j (λR=>GM lp G c k) (.s .n (.b (.l _ (G6 lp G c k) (λR H n=>(rg R q0,rg R q3,rg R q24,rg R tx,rg R nw,H,n)) λih12=>.n))) .n)))
def Lr:Ta:=λlp G c k=>.n
def AUn:Ta:=λlp G c k=>.n
def KW:Ta:=λlp G c k=>.n
def lX:Ta:=λlp G c k=>.n
def PO:Ta:=λlp G c k=>(.s .n (.s .n (.j (λR=>qE Bi C4 lp G c k (rg R q0) (rg R q1) (rg R q2) (rg R q6) (rg R q7)) (.b (.l _ (jm Bi C4 lp G c k) (λR H n=>(rg R q0,rg R q1,rg R q2,rg R q6,rg R q7,rg R q8,H,n)) λih18=>.n)) (.s .n (.b (.l _ (qV Bi lp G c k) (λR H n=>(rg R q0,rg R q1,rg R q2,rg R q6,H,n)) λih3=>(.s .n (.b (.s .n (.j (λR=>xY Bi lp G c k ih3 (rg R q0) (rg R q1) (rg R q2) (rg R q6) (rg R q7)) (.b (.l _ (jZ Bi lp G c k ih3) (λR H n=>(rg R q0,rg R q1,rg R q2,rg R q6,rg R q7,rg R q8,H,n)) λih12=>.n)) (.j (λR=>rV lp G c k ih3 (rg R q0) (rg R q1) (rg R q2) (rg R q6)) .n .n)))))))))))
def QC:Ta:=λlp G c k=>.n
def wM:Ta:=λlp G c k=>.n
def qX:Ta:=λlp G c k=>(.s .n (.j (λR=>JD lp G c k (rg R q0) (rg R q4)) (.s .n (.b (.l _ (R8 lp G c k) (λR H n=>(rg R q0,rg R q4,rg R q12,rg R q13,rg R cq,H,n)) λih21=>.n))) .n))
def wV:Ta:=λlp G c k=>(.j (λR=>GD lp G c k (rg R q0)) .n .n)
def uX:Ta:=λlp G c k=>.n
def nL:Ta:=λlp G c k=>(.s .n (.j (λR=>Mv lp G c k (rg R q4)) (.s .n (.b (.l _ (SD lp G c k) (λR H n=>(rg R q1,rg R q4,rg R q9,rg R q10,rg R q11,H,n)) λih9=>.n))) .n))
def sD:Ta:=λlp G c k=>.n
def ZW:Ta:=λlp G c k=>(.s .n (.s .n (.j (λR=>HD lp G c k (rg R q0) (rg R q3) (rg R q4)) (.s .n (.b (.l _ (L5 lp G c k) (λR H n=>(rg R q0,rg R q3,rg R q4,rg R q16,rg R oG,rg R vy,H,n)) λih22=>.n))) .n)))
def Yq:Ta:=λlp G c k=>(.s .n (.s .n (.s .n (.j (λR=>HL lp G c k (rg R q0) (rg R q9) (rg R q10)) (.s .n (.b (.l _ (K3 lp G c k) (λR H n=>(rg R q0,rg R q1,rg R q2,rg R q7,rg R q9,rg R q10,rg R q11,H,n)) λih15=>.n))) .n))))
def aP:Ta:=λlp G c k=>(.s .n (.s .n (.s (.b (.s .n (.c .n (.s .n (.c .n (.s .n (.c (.s .n (.s .n (.j (λR=>Bc lp G c k (rg R q6) (rg R q9)) .n .n))) .n))))))) .n)))
def rA:Ta:=λlp G c k=>.n
def ACC:Ta:=λlp G c k=>.n
def Lm:Ta:=λlp G c k=>.n
def AUJ:Ta:=λlp G c k=>.n
def zT:Ta:=λlp G c k=>.n
def ACH:Ta:=λlp G c k=>.n
def jO:Ta:=λlp G c k=>.n
def Td:Ta:=λlp G c k=>(.s .n (.j (λR=>Ev lp G c k) (.s .n (.b (.l _ (IT lp G c k) (λR H n=>(rg R q0,rg R q1,rg R q7,rg R q8,H,n)) λih3=>.n))) .n))
def kG:Ta:=λlp G c k=>(.s .n (.j (λR=>LM lp G c k (rg R q4)) (.s .n (.b (.l _ (RE lp G c k) (λR H n=>(rg R q1,rg R q4,rg R q9,rg R q10,rg R q11,H,n)) λih9=>.n))) .n))
def QL:Ta:=λlp G c k=>(.s .n (.s .n (.j (λR=>Dq lp G c k) (.s .n (.b (.l _ (Gg lp G c k) (λR H n=>(rg R q0,rg R q1,rg R q12,rg R q13,H,n)) λih6=>.n))) .n)))
def Ri:Ta:=λlp G c k=>(.s .n (.s .n (.j (λR=>qE DQ DX lp G c k (rg R q0) (rg R q1) (rg R q2) (rg R q6) (rg R q7)) (.b (.l _ (jm DQ DX lp G c k) (λR H n=>(rg R q0,rg R q1,rg R q2,rg R q6,rg R q7,rg R q8,H,n)) λih18=>.n)) (.s .n (.b (.l _ (qV DQ lp G c k) (λR H n=>(rg R q0,rg R q1,rg R q2,rg R q6,H,n)) λih3=>(.s .n (.b (.s .n (.j (λR=>xY DQ lp G c k ih3 (rg R q0) (rg R q1) (rg R q2) (rg R q6) (rg R q7)) (.b (.l _ (jZ DQ lp G c k ih3) (λR H n=>(rg R q0,rg R q1,rg R q2,rg R q6,rg R q7,rg R q8,H,n)) λih12=>.n)) (.j (λR=>rV lp G c k ih3 (rg R q0) (rg R q1) (rg R q2) (rg R q6)) .n .n)))))))))))
def Q9:Ta:=λlp G c k=>(.s .n (.s .n (.j (λR=>qE Bv DO lp G c k (rg R q0) (rg R q1) (rg R q2) (rg R q6) (rg R q7)) (.b (.l _ (jm Bv DO lp G c k) (λR H n=>(rg R q0,rg R q1,rg R q2,rg R q6,rg R q7,rg R q8,H,n)) λih18=>.n)) (.s .n (.b (.l _ (qV Bv lp G c k) (λR H n=>(rg R q0,rg R q1,rg R q2,rg R q6,H,n)) λih3=>(.s .n (.b (.s .n (.j (λR=>xY Bv lp G c k ih3 (rg R q0) (rg R q1) (rg R q2) (rg R q6) (rg R q7)) (.b (.l _ (jZ Bv lp G c k ih3) (λR H n=>(rg R q0,rg R q1,rg R q2,rg R q6,rg R q7,rg R q8,H,n)) λih12=>.n)) (.j (λR=>rV lp G c k ih3 (rg R q0) (rg R q1) (rg R q2) (rg R q6)) .n .n)))))))))))
def Ku:Ta:=λlp G c k=>(.s .n (.b (.l _ (qN 8 lp G c k) (λR H n=>(rg R q0,rg R q1,rg R q2,rg R q3,rg R q8,H,n)) λih2=>(.s .n (.j (λR=>jY lp G c k ih2 (rg R q0) (rg R q1) (rg R q2) (rg R q3) (rg R q8)) (.b (.s .n (.b (.l _ (pX 8 lp G c k ih2) (λR H n=>(rg R q0,rg R q1,rg R q2,rg R q3,rg R q8,rg R q9,H,n)) λih6=>.n)))) .n)))))
def tk:Ta:=λlp G c k=>.n
def wI:Ta:=λlp G c k=>.n
def lU:Ta:=λlp G c k=>(.s .n (.s .n (.j (λR=>LL lp G c k (rg R q7)) .n .n)))
def oT:Ta:=λlp G c k=>.n
def Ru:Ta:=λlp G c k=>(.s .n (.s .n (.j (λR=>EN lp G c k) (.s .n (.b (.l _ (HM lp G c k) (λR H n=>(rg R q0,rg R q1,rg R q12,rg R q13,H,n)) λih6=>.n))) .n)))
def Fy:Ta:=λlp G c k=>(.s .n (.s .n (.j (λR=>Bu lp G c k) (.s .n (.b (.l _ (Ck lp G c k) (λR H n=>(rg R q1,rg R q2,rg R cZ,rg R q16,rg R oG,H,n)) λih6=>.n))) .n)))
def fq:Ta:=λlp G c k=>.n
def bD:Ta:=λlp G c k=>(.s .n (.s .n (.s .n (.j (λR=>Im lp G c k (rg R q0) (rg R q5) (rg R q6)) (.s .n (.b (.l _ (NN lp G c k) (λR H n=>(rg R q0,rg R q5,rg R q6,rg R cZ,rg R q16,rg R oG,H,n)) λih17=>.n))) .n))))
def Zv:Ta:=λlp G c k=>(.s .n (.s .n (.j (λR=>B8 lp G c k (rg R q0) (rg R q6) (rg R q7)) (.s .n (.b (.j (λR=>Co lp G c k (rg R q0) (rg R q1) (rg R q5) (rg R q6) (rg R q7) (rg R cq) (rg R cZ)) .n .n))) .n)))
def Yv:Ta:=λlp G c k=>(.s .n (.s .n (.j (λR=>HE lp G c k (rg R q0) (rg R q4) (rg R q6)) (.s .n (.b (.l _ (LD lp G c k) (λR H n=>(rg R q0,rg R q3,rg R q4,rg R q6,rg R q13,rg R cq,rg R cZ,H,n)) λih19=>(.s .n (.s .n (.j (λR=>CH lp G c k ih19 (rg R q0) (rg R q3) (rg R q4) (rg R q6) (rg R q13) (rg R cq) (rg R cZ)) .n .n)))))) .n)))
def bI:Ta:=λlp G c k=>.n
def Zk:Ta:=λlp G c k=>.n
def se:Ta:=λlp G c k=>.n
def Z8:Ta:=λlp G c k=>(.s .n (.s .n (.j (λR=>Da lp G c k (rg R q6) (rg R q7)) .n .n)))
def sO:Ta:=λlp G c k=>.n
def Wt:Ta:=λlp G c k=>.n
def No:Ta:=λlp G c k=>(.s .n (.j (λR=>qS lp G c k) (.s .n (.b (.l _ (ri 2 lp G c k) (λR H n=>(rg R q0,rg R q1,rg R q7,rg R q8,H,n)) λih3=>.n))) .n))
def Rj:Ta:=λlp G c k=>(.s .n (.b (.l _ (qN 3 lp G c k) (λR H n=>(rg R q0,rg R q1,rg R q2,rg R q3,rg R q8,H,n)) λih2=>(.s .n (.j (λR=>jY lp G c k ih2 (rg R q0) (rg R q1) (rg R q2) (rg R q3) (rg R q8)) (.b (.s .n (.b (.l _ (pX 3 lp G c k ih2) (λR H n=>(rg R q0,rg R q1,rg R q2,rg R q3,rg R q8,rg R q9,H,n)) λih6=>.n)))) .n)))))
def MS:Ta:=λlp G c k=>(.s .n (.b (.l _ (qN 5 lp G c k) (λR H n=>(rg R q0,rg R q1,rg R q2,rg R q3,rg R q8,H,n)) λih2=>(.s .n (.j (λR=>jY lp G c k ih2 (rg R q0) (rg R q1) (rg R q2) (rg R q3) (rg R q8)) (.b (.s .n (.b (.l _ (pX 5 lp G c k ih2) (λR H n=>(rg R q0,rg R q1,rg R q2,rg R q3,rg R q8,rg R q9,H,n)) λih6=>.n)))) .n)))))
def qR:Ta:=λlp G c k=>(.s .n (.j (λR=>Df lp G c k (rg R q0) (rg R q4) (rg R q5)) (.s .n (.c (.s .n (.b (.l _ (Lj lp G c k) (λR H n=>(rg R q0,rg R q4,rg R q5,rg R q12,rg R q13,rg R cq,H,n)) λih37=>.n))) .n)) .n))
def tN:Ta:=λlp G c k=>(.s .n (.s .n (.j (λR=>GS lp G c k (rg R q0) (rg R q3)) (.s .n (.b (.l _ (LJ lp G c k) (λR H n=>(rg R q0,rg R q3,rg R sj,rg R kw,rg R q22,H,n)) λih111=>.n))) (.s .n (.b (.s .n (.c .n (.s .n (.c .n (.s .n (.c .n (.s .n (.c .n (.s .n (.c .n (.s .n (.c .n (.s .n (.c .n (.j (λR=>BW lp G c k (rg R q0) (rg R q3) (rg R wY) (rg R q78)) .n .n))))))))))))))))))))
def uR:Ta:=λlp G c k=>.n
def Rh:Ta:=λlp G c k=>(.s .n (.j (λR=>AB7 lp G c k) (.s .n (.b (.l _ (zB lp G c k) (λR H n=>(rg R q0,rg R q1,rg R q7,rg R q8,H,n)) λih3=>.n))) .n))
def ACE:Ta:=λlp G c k=>.n
def kz:Ta:=λlp G c k=>(.s .n (.j (λR=>LP lp G c k (rg R q4)) (.s .n (.b (.l _ (Q7 lp G c k) (λR H n=>(rg R q1,rg R q4,rg R q11,rg R q12,rg R q13,H,n)) λih9=>.n))) .n))
def eo:Ta:=λlp G c k=>(.s .n (.j (λR=>GC lp G c k (rg R q0)) .n .n))
def MN:Ta:=λlp G c k=>(.s .n (.s .n (.s .n (.s .n (.j (λR=>Dw lp G c k (rg R q0) (rg R q3) (rg R q4)) (.s .n (.b (.l _ (ER lp G c k) (λR H n=>(rg R q0,rg R q3,rg R q4,rg R q39,rg R q40,rg R q41,H,n)) λih130=>.n))) (.s .n (.s .n (.j (λR=>BH lp G c k (rg R q3) (rg R q4)) (.s .n (.b (.s .n (.c .n (.s .n (.c .n (.j (λR=>Bt lp G c k (rg R q0) (rg R q3) (rg R q4) (rg R q7) (rg R q66) (rg R AZK)) .n .n))))))) .n))))))))
def W9:Ta:=λlp G c k=>.n
def c7:Ta:=λlp G c k=>.n
def YS:Ta:=λlp G c k=>.n
def Wy:Ta:=λlp G c k=>.n
def sU:Ta:=λlp G c k=>(.s .n (.j (λR=>PP lp G c k) (.s .n (.b (.l _ (UO lp G c k) (λR H n=>(rg R q0,rg R q1,rg R q10,rg R q11,rg R q12,H,n)) λih6=>.n))) .n))
def qh:Ta:=λlp G c k=>.n
def cB:Ta:=λlp G c k=>(.s .n (.s .n (.j (λR=>Il lp G c k (rg R q7)) .n .n)))
def fD:Ta:=λlp G c k=>.n
def nQ:Ta:=λlp G c k=>.n
def Og:Ta:=λlp G c k=>.n
def pJ:Ta:=λlp G c k=>.n
def wG:Ta:=λlp G c k=>(.s .n (.s (.s .n (.b (.j (λR=>GK lp G c k (rg R q0) (rg R q3) (rg R q8)) .n (.c (.s .n (.j (λR=>IL lp G c k (rg R q0) (rg R q3) (rg R q4)) .n (.s .n (.j (λR=>IE lp G c k) .n .n)))) .n)))) .n))
def QE:Ta:=λlp G c k=>.n
def ey:Ta:=λlp G c k=>(.s .n (.s .n (.j (λR=>Av lp G c k (rg R q3) (rg R q4)) (.s .n (.b (.s .n (.c .n (.j (λR=>Ds lp G c k (rg R q0) (rg R q3) (rg R q4) (rg R q12) (rg R ph)) .n (.c .n (.s .n (.c .n (.s .n (.c .n (.s .n (.c .n (.j (λR=>CL lp G c k (rg R q0) (rg R q3) (rg R q4) (rg R q12) (rg R q65)) .n (.c .n (.s .n (.c .n (.s .n (.c (.j (λR=>Fh lp G c k (rg R q3) (rg R q4)) .n .n) (.s .n (.c (.j (λR=>Fi lp G c k (rg R q3) (rg R q4)) .n .n) .n)))))))))))))))))))) .n)))
def oM:Ta:=λlp G c k=>.n
def bh:Ta:=λlp G c k=>(.s .n (.j (λR=>OJ lp G c k) (.s .n (.b (.l _ (N1 lp G c k) (λR H n=>(rg R q0,rg R q5,rg R q9,rg R q10,rg R q11,H,n)) λih4=>.n))) .n))
def Wr:Ta:=λlp G c k=>(.s .n (.s .n (.j (λR=>G4 lp G c k (rg R q7)) .n .n)))
def YT:Ta:=λlp G c k=>.n
def Yn:Ta:=λlp G c k=>.n
def iK:Ta:=λlp G c k=>.n
def jQ:Ta:=λlp G c k=>.n
def V7:Ta:=λlp G c k=>(.s .n (.s .n (.j (λR=>GO lp G c k (rg R q7)) .n .n)))
def iJ:Ta:=λlp G c k=>.n
def fZ:Ta:=λlp G c k=>(.s .n (.s .n (.j (λR=>Ko lp G c k (rg R q7)) .n .n)))
def kV:Ta:=λlp G c k=>.n
def mh:Ta:=λlp G c k=>.n
def dl:Ta:=λlp G c k=>(.s .n (.s .n (.j (λR=>JX lp G c k (rg R q0)) (.s .n (.b (.l _ (Nt lp G c k) (λR H n=>(rg R q0,rg R q1,rg R vy,rg R ph,rg R sj,H,n)) λih18=>.n))) .n)))
def zW:Ta:=λlp G c k=>.n
def Zm:Ta:=λlp G c k=>(.s .n (.j (λR=>CW lp G c k (rg R q0) (rg R q1) (rg R q4) (rg R q5)) .n (.s .n (.s .n (.s .n (.j (λR=>EQ lp G c k (rg R q1) (rg R q9) (rg R q10)) .n .n))))))
def uV:Ta:=λlp G c k=>.n
def dm:Ta:=λlp G c k=>(.b (.s .n (.c .n (.s .n (.c .n (.s .n (.c (.s .n (.j (λR=>C2 lp G c k (rg R q1)) .n .n)) .n)))))))
def ki:Ta:=λlp G c k=>.n
def Jq:Ta:=λlp G c k=>(.s .n (.j (λR=>qS lp G c k) (.s .n (.b (.l _ (ri 4 lp G c k) (λR H n=>(rg R q0,rg R q1,rg R q7,rg R q8,H,n)) λih3=>.n))) .n))
def VE:Ta:=λlp G c k=>.n
def Iv:Ta:=λlp G c k=>(.s .n (.j (λR=>qS lp G c k) (.s .n (.b (.l _ (ri 6 lp G c k) (λR H n=>(rg R q0,rg R q1,rg R q7,rg R q8,H,n)) λih3=>.n))) .n))
def T5:Ta:=λlp G c k=>.n
def P4:Ta:=λlp G c k=>(.s .n (.j (λR=>AB7 lp G c k) (.s .n (.b (.l _ (zB lp G c k) (λR H n=>(rg R q0,rg R q1,rg R q7,rg R q8,H,n)) λih3=>.n))) .n))
def bU:Ta:=λlp G c k=>.n
def eW:Ta:=λlp G c k=>(.s .n (.s .n (.s .n (.b (.l _ (Nv lp G c k) (λR H n=>(rg R q0,rg R q7,rg R kw,rg R q22,rg R q23,H,n)) λih13=>.n)))))
section
variable{lp:Ma}(hL:AMv lp)(G:AQ)
include hL
abbrev Me:DF G 3 (NR (If lp G)):=
 .mk Mm <| OO hL (Mj lp G)
abbrev qw:DF G 8 (fH (aB lp G)):=
 .mk p8 <| fI hL (pT lp G)
abbrev Pn:DF G 9 (NR (Kz lp G)):=
 .mk Nu <| OO hL (Ni lp G)
abbrev Uq:DF G 10 (fH (Qw lp G)):=
 .mk Ul <| fI hL (Uk lp G)
abbrev AHk:DF G 14 (fH (ABm lp G)):=
 .mk AHO <| fI hL (AH1 lp G)
abbrev AEl:DF G 15 (fH (zP lp G)):=
 .mk AF1 <| fI hL (AFz lp G)
abbrev ACD:DF G 16 (NR (AX6 lp G)):=
 .mk ACY <| OO hL (ACk lp G)
abbrev AHW:DF G 19 (eU (ABZ lp G)):=
 .mk AH2 <| uN hL (AGy lp G)
abbrev nx:DF G 22 (fH (Xd lp G)):=
 .mk ny <| fI hL (nM lp G)
abbrev iU:DF G 23 (fH (Ut lp G)):=
 .mk iY <| fI hL (iv lp G)
abbrev mr:DF G 24 (fH (Xi lp G)):=
 .mk nF <| fI hL (mZ lp G)
abbrev kP:DF G 25 (fH (VS lp G)):=
 .mk lh <| fI hL (jx lp G)
abbrev lZ:DF G 26 (NR (Wg lp G)):=
 .mk kH <| OO hL (mD lp G)
abbrev Nw:DF G 27 (NR (KL lp G)):=
 .mk PE <| OO hL (Pi lp G)
abbrev Rs:DF G 30 (fH (Jf lp G)):=
 .mk Ra <| fI hL (Ro lp G)
abbrev AEh:DF G 31 (fH (yz lp G)):=
 .mk AEx <| fI hL (AF9 lp G)
abbrev rF:DF G 32 (fH (Zx lp G)):=
 .mk rn <| fI hL (pb lp G)
abbrev Nn:DF G 33 (fH (GU lp G)):=
 .mk Nj <| fI hL (Nd lp G)
abbrev Ic:DF G 34 (NR (D4 lp G)):=
 .mk Ik <| OO hL (Ig lp G)
abbrev z0:DF G 35 (NR (mL lp G)):=
 .mk yq <| OO hL (yQ lp G)
abbrev pD:DF G 36 (NR (X5 lp G)):=
 .mk mj <| OO hL (AWc lp G)
abbrev lj:DF G 37 (NR (VX lp G)):=
 .mk ku <| OO hL (kj lp G)
abbrev wU:DF G 41 (fH (ic lp G)):=
 .mk wg <| fI hL (wL lp G)
abbrev lP:DF G 43 (NR (WT lp G)):=
 .mk jw <| OO hL (AUq lp G)
abbrev oq:DF G 44 (NR (X3 lp G)):=
 .mk mf <| OO hL (pB lp G)
abbrev lJ:DF G 45 (ar3 (We lp G)):=
 .mk kI <| sf3 hL (kr lp G)
abbrev nK:DF G 46 (fH (YJ lp G)):=
 .mk ol <| fI hL (nR lp G)
abbrev yS:DF G 47 (NR (mN lp G)):=
 .mk zA <| OO hL (xq lp G)
abbrev AJ5:DF G 48 (fH (AFQ lp G)):=
 .mk AKZ <| fI hL (AKO lp G)
abbrev qP:DF G 49 (eU (aE lp G)):=
 .mk pS <| uN hL (rh lp G)
abbrev Wx:DF G 50 (pm (OP lp G)):=
 .mk XF <| p7 hL (XN lp G)
abbrev AEI:DF G 51 (eU (xk lp G)):=
 .mk AE2 <| uN hL (AF2 lp G)
abbrev aI:DF G 52 (NR (Qq lp G)):=
 .mk Z5 <| OO hL (ZL lp G)
abbrev oF:DF G 53 (fH (Xg lp G)):=
 .mk og <| fI hL (oV lp G)
abbrev lT:DF G 54 (fH (WZ lp G)):=
 .mk lg <| fI hL (kU lp G)
abbrev pL:DF G 55 (NR (aA lp G)):=
 .mk sC <| OO hL (qW lp G)
abbrev oo:DF G 56 (NR (XV lp G)):=
 .mk oP <| OO hL (oH lp G)
abbrev RK:DF G 57 (NR (Iq lp G)):=
 .mk Qi <| OO hL (QW lp G)
abbrev AAY:DF G 58 (fH (qU lp G)):=
 .mk AAK <| fI hL (AAX lp G)
abbrev jy:DF G 59 (NR (Vw lp G)):=
 .mk kx <| OO hL (lD lp G)
abbrev Ti:DF G 60 (YO (N7 lp G)):=
 .mk jM <| gQ hL (gZ lp G)
abbrev tJ:DF G 61 (NR (dI lp G)):=
 .mk uF <| OO hL (tj lp G)
abbrev Of:DF G 62 (NR (LR lp G)):=
 .mk PL <| OO hL (O4 lp G)
abbrev Lu:DF G 65 (NR (FU lp G)):=
 .mk Lg <| OO hL (Lr lp G)
abbrev ju:DF G 66 (NR (WA lp G)):=
 .mk kK <| OO hL (AUn lp G)
abbrev KF:DF G 67 (NR (Er lp G)):=
 .mk KR <| OO hL (KW lp G)
abbrev AUp:DF G 68 (NR (WX lp G)):=
 .mk kL <| OO hL (lX lp G)
abbrev O8:DF G 69 (ar3 (QG lp G)):=
 .mk PH <| sf3 hL (PO lp G)
abbrev P5:DF G 70 (NR (II lp G)):=
 .mk QP <| OO hL (QC lp G)
abbrev vx:DF G 71 (NR (iq lp G)):=
 .mk wR <| OO hL (wM lp G)
abbrev rQ:DF G 72 (NR (aS lp G)):=
 .mk pU <| OO hL (qX lp G)
abbrev wa:DF G 73 (fH (gN lp G)):=
 .mk wF <| fI hL (wV lp G)
abbrev tW:DF G 79 (fH (dF lp G)):=
 .mk ua <| fI hL (uX lp G)
abbrev oS:DF G 80 (NR (Xp lp G)):=
 .mk mq <| OO hL (nL lp G)
abbrev rB:DF G 81 (NR (Z9 lp G)):=
 .mk py <| OO hL (sD lp G)
abbrev aO:DF G 82 (NR (Q5 lp G)):=
 .mk Zg <| OO hL (ZW lp G)
abbrev YU:DF G 83 (YO (Pl lp G)):=
 .mk Yu <| gQ hL (Yq lp G)
abbrev Zi:DF G 84 (ar3 (Qz lp G)):=
 .mk Zj <| sf3 hL (aP lp G)
abbrev qB:DF G 85 (fH (ZM lp G)):=
 .mk rE <| fI hL (rA lp G)
abbrev ADW:DF G 86 (fH (vS lp G)):=
 .mk ABw <| fI hL (ACC lp G)
abbrev Ly:DF G 87 (NR (FT lp G)):=
 .mk LX <| OO hL (Lm lp G)
abbrev fo:DF G 88 (fH (Uc lp G)):=
 .mk jT <| fI hL (AUJ lp G)
abbrev yi:DF G 89 (fH (mQ lp G)):=
 .mk xg <| fI hL (zT lp G)
abbrev ACh:DF G 90 (fH (un lp G)):=
 .mk AC2 <| fI hL (ACH lp G)
abbrev gC:DF G 91 (ar3 (UV lp G)):=
 .mk fp <| sf3 hL (jO lp G)
abbrev TY:DF G 92 (NR (K0 lp G)):=
 .mk TF <| OO hL (Td lp G)
abbrev ky:DF G 93 (NR (Vm lp G)):=
 .mk kZ <| OO hL (kG lp G)
abbrev QA:DF G 94 (NR (Hw lp G)):=
 .mk P7 <| OO hL (QL lp G)
abbrev Rr:DF G 100 (ar3 (Sn lp G)):=
 .mk RY <| sf3 hL (Ri lp G)
abbrev RQ:DF G 101 (ar3 (RU lp G)):=
 .mk Qg <| sf3 hL (Q9 lp G)
abbrev Ky:DF G 102 (YO (LK lp G)):=
 .mk LA <| gQ hL (Ku lp G)
abbrev uB:DF G 105 (NR (dC lp G)):=
 .mk tG <| OO hL (tk lp G)
abbrev wJ:DF G 106 (YO (iS lp G)):=
 .mk wS <| gQ hL (wI lp G)
abbrev lM:DF G 107 (ar3 (WC lp G)):=
 .mk lF <| sf3 hL (lU lp G)
abbrev pF:DF G 108 (NR (XZ lp G)):=
 .mk oO <| OO hL (oT lp G)
abbrev Rf:DF G 109 (NR (JZ lp G)):=
 .mk RW <| OO hL (Ru lp G)
abbrev Fz:DF G 110 (ar3 (Cs lp G)):=
 .mk F4 <| sf3 hL (Fy lp G)
abbrev iX:DF G 111 (ar3 (US lp G)):=
 .mk fU <| sf3 hL (fq lp G)
abbrev bX:DF G 112 (NR (SM lp G)):=
 .mk bi <| OO hL (bD lp G)
abbrev ak:DF G 113 (ar3 (RH lp G)):=
 .mk Zo <| sf3 hL (Zv lp G)
abbrev YY:DF G 114 (NR (Pg lp G)):=
 .mk Yd <| OO hL (Yv lp G)
abbrev RG:DF G 115 (NR (Lz lp G)):=
 .mk cG <| OO hL (bI lp G)
abbrev PZ:DF G 116 (NR (KT lp G)):=
 .mk Y6 <| OO hL (Zk lp G)
abbrev tK:DF G 117 (ar3 (dK lp G)):=
 .mk tZ <| sf3 hL (se lp G)
abbrev Zq:DF G 118 (ar3 (RJ lp G)):=
 .mk Zz <| sf3 hL (Z8 lp G)
abbrev tQ:DF G 119 (fH (dG lp G)):=
 .mk tm <| fI hL (sO lp G)
abbrev XA:DF G 120 (ar3 (Oh lp G)):=
 .mk Ws <| sf3 hL (Wt lp G)
abbrev F9:DF G 121 (NR (Dg lp G)):=
 .mk NY <| OO hL (No lp G)
abbrev Mi:DF G 133 (YO (Nl lp G)):=
 .mk NP <| gQ hL (Rj lp G)
abbrev MW:DF G 135 (YO (NG lp G)):=
 .mk MY <| gQ hL (MS lp G)
abbrev pK:DF G 138 (ar3 (Y8 lp G)):=
 .mk qY <| sf3 hL (qR lp G)
abbrev sL:DF G 139 (NR (dd lp G)):=
 .mk uM <| OO hL (tN lp G)
abbrev sM:DF G 140 (NR (dV lp G)):=
 .mk tX <| OO hL (uR lp G)
abbrev RZ:DF G 141 (NR (Jh lp G)):=
 .mk Rl <| OO hL (Rh lp G)
abbrev eS:DF G 142 (ar3 (TE lp G)):=
 .mk ARd <| sf3 hL (ACE lp G)
abbrev lu:DF G 143 (NR (Vi lp G)):=
 .mk jz <| OO hL (kz lp G)
abbrev de:DF G 144 (YO (Tf lp G)):=
 .mk eA <| gQ hL (eo lp G)
abbrev dv:DF G 145 (NR (TX lp G)):=
 .mk MB <| OO hL (MN lp G)
abbrev XI:DF G 146 (NR (Oj lp G)):=
 .mk XK <| OO hL (W9 lp G)
abbrev bP:DF G 147 (fH (SI lp G)):=
 .mk cy <| fI hL (c7 lp G)
abbrev Yh:DF G 148 (NR (Pf lp G)):=
 .mk Yg <| OO hL (YS lp G)
abbrev Wv:DF G 149 (ar3 (Oe lp G)):=
 .mk XE <| sf3 hL (Wy lp G)
abbrev uQ:DF G 167 (NR (dL lp G)):=
 .mk uJ <| OO hL (sU lp G)
abbrev pj:DF G 168 (NR (Zb lp G)):=
 .mk qO <| OO hL (qh lp G)
abbrev cm:DF G 169 (ar3 (SV lp G)):=
 .mk cW <| sf3 hL (cB lp G)
abbrev dy:DF G 170 (NR (Tx lp G)):=
 .mk ASj <| OO hL (fD lp G)
abbrev nV:DF G 171 (NR (X8 lp G)):=
 .mk mz <| OO hL (nQ lp G)
abbrev oC:DF G 172 (NR (Xk lp G)):=
 .mk ot <| OO hL (Og lp G)
abbrev qM:DF G 173 (NR (Z1 lp G)):=
 .mk pM <| OO hL (pJ lp G)
abbrev wW:DF G 174 (NR (iD lp G)):=
 .mk wH <| OO hL (wG lp G)
abbrev QO:DF G 176 (fH (Hy lp G)):=
 .mk Px <| fI hL (QE lp G)
abbrev eu:DF G 177 (NR (TA lp G)):=
 .mk eE <| OO hL (ey lp G)
abbrev oh:DF G 178 (ar3 (YG lp G)):=
 .mk oK <| sf3 hL (oM lp G)
abbrev bK:DF G 179 (ar3 (SK lp G)):=
 .mk cN <| sf3 hL (bh lp G)
abbrev XB:DF G 190 (ar3 (OQ lp G)):=
 .mk XD <| sf3 hL (Wr lp G)
abbrev Yj:DF G 191 (NR (Pt lp G)):=
 .mk Yi <| OO hL (YT lp G)
abbrev YM:DF G 192 (ar3 (Pv lp G)):=
 .mk Yf <| sf3 hL (Yn lp G)
abbrev jA:DF G 193 (NR (UW lp G)):=
 .mk jD <| OO hL (iK lp G)
abbrev fj:DF G 194 (NR (UU lp G)):=
 .mk iT <| OO hL (jQ lp G)
abbrev Wi:DF G 195 (ar3 (TU lp G)):=
 .mk WY <| sf3 hL (V7 lp G)
abbrev iO:DF G 196 (NR (Ui lp G)):=
 .mk gz <| OO hL (iJ lp G)
abbrev iH:DF G 197 (ar3 (Uv lp G)):=
 .mk gI <| sf3 hL (fZ lp G)
abbrev kJ:DF G 198 (NR (Wb lp G)):=
 .mk j0 <| OO hL (kV lp G)
abbrev nW:DF G 199 (fH (YB lp G)):=
 .mk oI <| fI hL (mh lp G)
abbrev eC:DF G 200 (NR (TB lp G)):=
 .mk eO <| OO hL (dl lp G)
abbrev yG:DF G 201 (eU (mF lp G)):=
 .mk za <| uN hL (zW lp G)
abbrev Zh:DF G 202 (NR (Q4 lp G)):=
 .mk aR <| OO hL (Zm lp G)
abbrev uT:DF G 203 (fH (dS lp G)):=
 .mk uE <| fI hL (uV lp G)
abbrev FE:DF G 204 (NR (ED lp G)):=
 .mk vq <| OO hL (dm lp G)
abbrev kq:DF G 205 (ar3 (V2 lp G)):=
 .mk kY <| sf3 hL (ki lp G)
abbrev Jt:DF G 216 (NR (Ei lp G)):=
 .mk Jr <| OO hL (Jq lp G)
abbrev VK:DF G 217 (ar3 (NH lp G)):=
 .mk U6 <| sf3 hL (VE lp G)
abbrev Ix:DF G 218 (NR (EG lp G)):=
 .mk Iw <| OO hL (Iv lp G)
abbrev T7:DF G 219 (ar3 (MH lp G)):=
 .mk UI <| sf3 hL (T5 lp G)
abbrev QN:DF G 220 (NR (Hz lp G)):=
 .mk P8 <| OO hL (P4 lp G)
abbrev bS:DF G 221 (ar3 (SP lp G)):=
 .mk bZ <| sf3 hL (bU lp G)
abbrev ep:DF G 222 (YO (TG lp G)):=
 .mk fF <| gQ hL (eW lp G)
end
abbrev go0{G:AQ}{f:Nat}{s:Am->Heap->Nat->KV->Prop}{H:Heap}{n:Nat}{k:KV}(z:DF G f (eU s))(h:s (Runs F G) H n k):Runs F G f [] H n k:=by have⟨p,o⟩:=z;exact hJ p o h
abbrev go1{G:AQ}{f:Nat}{s:Am->V->Heap->Nat->KV->Prop}{a0:V}{H:Heap}{n:Nat}{k:KV}(z:DF G f (fH s))(h:s (Runs F G) a0 H n k):Runs F G f [a0] H n k:=by have⟨p,o⟩:=z;exact hJ p o h
abbrev go2{G:AQ}{f:Nat}{s:Am->V->V->Heap->Nat->KV->Prop}{a0 a1:V}{H:Heap}{n:Nat}{k:KV}(z:DF G f (NR s))(h:s (Runs F G) a0 a1 H n k):Runs F G f [a0,a1] H n k:=by have⟨p,o⟩:=z;exact hJ p o h
abbrev xN{G:AQ}{f:Nat}{s:Am->V->V->V->Heap->Nat->KV->Prop}{a0 a1 a2:V}{H:Heap}{n:Nat}{k:KV}(z:DF G f (ar3 s))(h:s (Runs F G) a0 a1 a2 H n k):Runs F G f [a0,a1,a2] H n k:=by have⟨p,o⟩:=z;exact hJ p o h
abbrev tS{G:AQ}{f:Nat}{s:Am->V->V->V->V->Heap->Nat->KV->Prop}{a0 a1 a2 d:V}{H:Heap}{n:Nat}{k:KV}(z:DF G f (YO s))(h:s (Runs F G) a0 a1 a2 d H n k):Runs F G f [a0,a1,a2,d] H n k:=by have⟨p,o⟩:=z;exact hJ p o h
abbrev go6{G:AQ}{f:Nat}{s:Am->V->V->V->V->V->V->Heap->Nat->KV->Prop}{a0 a1 a2 d g i:V}{H:Heap}{n:Nat}{k:KV}(z:DF G f (pm s))(h:s (Runs F G) a0 a1 a2 d g i H n k):Runs F G f [a0,a1,a2,d,g,i] H n k:=by have⟨p,o⟩:=z;exact hJ p o h
end Go.RL
