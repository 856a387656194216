/- Part of a proof: texts LQSi LQSt of the engine and what is proved with it; nothing is assumed. -/
import Derived.Test.YtibbhhkcjjeclaaDoorPlain
import Derived.Test.YtibbhhkcjjeclaaDoorCode
import Derived.Test.YtibbhhkcjjeclaaDoorEngE
set_option linter.unusedVariables false
set_option linter.unusedSimpArgs false
noncomputable section
namespace Go.RL
open Go.Ba
set_option maxRecDepth 100000
inductive Oo (G : AL) (n : Nat) (s : SF) : Prop where
 | mk {af : AF} (h : T.get F n = some af) (o : wo G af s) : Oo G n s
def YM (lp : Aq) (G : AL) (call : AV) (k : KV) : An := (.s .n (.s .n (.s .n (.s .n (.s .n (.s .n (.s .n (.j (fun R=>Dq lp G call k (rg R q0) (rg R q12) (rg R q13) (rg R q14)) (.s .n (.b (.l _ (IB lp G call k) (fun R H n=>(rg R q0, rg R q2, rg R q3, rg R q4, rg R q12, rg R q13, rg R q14, rg R q52, rg R q53, rg R q54, H, n)) fun ih41=>(.s .n (.s .n (.j (fun R=>Ez lp G call k ih41 (rg R q0) (rg R q2) (rg R q3) (rg R q4) (rg R q12) (rg R q13) (rg R q14) (rg R q52) (rg R q53) (rg R q54)) (.b (.s .n (.s .n (.s .n (.s .n (.j (fun R=>Du lp G call k ih41 (rg R q0) (rg R q2) (rg R q3) (rg R q4) (rg R q12) (rg R q13) (rg R q14) (rg R q15) (rg R q16) (rg R q17) (rg R q52) (rg R q53) (rg R q54)) (.s .n (.b (.l _ (Ht lp G call k ih41) (fun R H n=>(rg R q0, rg R q2, rg R q3, rg R q4, rg R q12, rg R q13, rg R q14, rg R q15, rg R q16, rg R q17, rg R q52, rg R q53, rg R q54, rg R q77, rg R q78, rg R q79, H, n)) fun ih91=>.n))) .n)))))) .n)))))) .n))))))))
theorem QS {lp : Aq} (hL : Dk lp) (G : AL) : Oo G 10 (ar5 (Eo lp G)) :=
 .mk Jy <| sf5 hL (an := YM lp G) (fun _ _ => obs (by kernel_rfl)) fun call a0 a1 a2 a3 a4 H n k => by kernel_rfl
def mM (lp : Aq) (G : AL) (call : AV) (k : KV) : An := (.s .n (.j (fun R=>PY lp G call k (rg R q0)) (.s .n (.b (.l _ (Um lp G call k) (fun R H n=>(rg R q0, rg R q5, rg R q6, rg R q7, H, n)) fun ih5=>.n))) .n))
theorem YK {lp : Aq} (hL : Dk lp) (G : AL) : Oo G 13 (Jg (MK lp G)) :=
 .mk SQ <| lU hL (an := mM lp G) (fun _ _ => obs (by kernel_rfl)) fun call a0 H n k => by kernel_rfl
def AAZ (lp : Aq) (G : AL) (call : AV) (k : KV) : An := (.s .n (.s .n (.s .n (.s .n (.j (fun R=>VK lp G call k (rg R q0) (rg R q4) (rg R q5)) (.s .n (.b (.l _ (YA lp G call k) (fun R H n=>(rg R q0, rg R q4, rg R q5, rg R q19, rg R q20, rg R q21, H, n)) fun ih33=>.n))) (.s .n (.j (fun R=>UW lp G call k (rg R q5)) (.s .n (.b (.l _ (SG lp G call k) (fun R H n=>(rg R q5, rg R q73, rg R q74, rg R q75, H, n)) fun ih13=>.n))) .n)))))))
theorem jV {lp : Aq} (hL : Dk lp) (G : AL) : Oo G 14 (Jg (TW lp G)) :=
 .mk Yh <| lU hL (an := AAZ lp G) (fun _ _ => obs (by kernel_rfl)) fun call a0 H n k => by kernel_rfl
def gW (lp : Aq) (G : AL) (call : AV) (k : KV) : An := (.s .n (.s .n (.j (fun R=>Nb lp G call k) (.s .n (.b (.l _ (Qw lp G call k) (fun R H n=>(rg R q0, rg R q3, rg R q24, rg R q25, rg R q26, H, n)) fun ih12=>.n))) .n)))
theorem VL {lp : Aq} (hL : Dk lp) (G : AL) : Oo G 17 (Rf (JQ lp G)) :=
 .mk Px <| sf2 hL (an := gW lp G) (fun _ _ => obs (by kernel_rfl)) fun call a0 a1 H n k => by kernel_rfl
def dJ (lp : Aq) (G : AL) (call : AV) (k : KV) : An := .n
theorem Uo {lp : Aq} (hL : Dk lp) (G : AL) : Oo G 18 (Jg (Ie lp G)) :=
 .mk Ou <| lU hL (an := dJ lp G) (fun _ _ => obs (by kernel_rfl)) fun call a0 H n k => by kernel_rfl
def dG (lp : Aq) (G : AL) (call : AV) (k : KV) : An := (.s .n (.s .n (.j (fun R=>NY lp G call k (rg R q6)) (.b (.l _ (Qz lp G call k) (fun R H n=>(rg R q0, rg R q1, rg R q6, H, n)) fun ih2=>.n)) .n)))
theorem Uk {lp : Aq} (hL : Dk lp) (G : AL) : Oo G 19 (Rf (IJ lp G)) :=
 .mk O1 <| sf2 hL (an := dG lp G) (fun _ _ => obs (by kernel_rfl)) fun call a0 a1 H n k => by kernel_rfl
def fQ (lp : Aq) (G : AL) (call : AV) (k : KV) : An := .n
theorem Vq {lp : Aq} (hL : Dk lp) (G : AL) : Oo G 21 (Rf (Iz lp G)) :=
 .mk Pv <| sf2 hL (an := fQ lp G) (fun _ _ => obs (by kernel_rfl)) fun call a0 a1 H n k => by kernel_rfl
def jU (lp : Aq) (G : AL) (call : AV) (k : KV) : An := .n
theorem je {lp : Aq} (hL : Dk lp) (G : AL) : Oo G 25 (ar0 (X9 lp G)) :=
 .mk jZ <| sf0 hL (an := jU lp G) (fun _ _ => obs (by kernel_rfl)) fun call  H n k => by kernel_rfl
def pY (lp : Aq) (G : AL) (call : AV) (k : KV) : An := (.s .n (.j (fun R=>Qe lp G call k (rg R q2)) (.s .n (.b (.l _ (VI lp G call k) (fun R H n=>(rg R q0, rg R q2, rg R q12, rg R q13, rg R q14, H, n)) fun ih7=>(.s .n (.s .n (.j (fun R=>Nq lp G call k ih7 (rg R q0) (rg R q2) (rg R q12) (rg R q13) (rg R q14)) (.b (.s .n (.s .n (.s .n (.b (.l _ (Ox lp G call k ih7) (fun R H n=>(rg R q0, rg R q2, rg R q4, rg R q5, rg R q12, rg R q13, rg R q14, rg R q26, rg R q27, rg R q28, H, n)) fun ih22=>.n)))))) .n)))))) .n))
theorem Y8 {lp : Aq} (hL : Dk lp) (G : AL) : Oo G 26 (Jg (Nz lp G)) :=
 .mk UJ <| lU hL (an := pY lp G) (fun _ _ => obs (by kernel_rfl)) fun call a0 H n k => by kernel_rfl
def ADd (lp : Aq) (G : AL) (call : AV) (k : KV) : An := .n
theorem uT {lp : Aq} (hL : Dk lp) (G : AL) : Oo G 29 (ar0 (YH lp G)) :=
 .mk gJ <| sf0 hL (an := ADd lp G) (fun _ _ => obs (by kernel_rfl)) fun call  H n k => by kernel_rfl
def vk (lp : Aq) (G : AL) (call : AV) (k : KV) : An := .n
theorem uI {lp : Aq} (hL : Dk lp) (G : AL) : Oo G 31 (Rf (eu lp G)) :=
 .mk uX <| sf2 hL (an := vk lp G) (fun _ _ => obs (by kernel_rfl)) fun call a0 a1 H n k => by kernel_rfl
def iY (lp : Aq) (G : AL) (call : AV) (k : KV) : An := .n
theorem Vo {lp : Aq} (hL : Dk lp) (G : AL) : Oo G 32 (Jg (I9 lp G)) :=
 .mk Pq <| lU hL (an := iY lp G) (fun _ _ => obs (by kernel_rfl)) fun call a0 H n k => by kernel_rfl
def lY (lp : Aq) (G : AL) (call : AV) (k : KV) : An := .n
theorem nG {lp : Aq} (hL : Dk lp) (G : AL) : Oo G 33 (ar3 (Y4 lp G)) :=
 .mk lN <| sf3 hL (an := lY lp G) (fun _ _ => obs (by kernel_rfl)) fun call a0 a1 a2 H n k => by kernel_rfl
def pz (lp : Aq) (G : AL) (call : AV) (k : KV) : An := .n
theorem Y6 {lp : Aq} (hL : Dk lp) (G : AL) : Oo G 34 (Jg (OG lp G)) :=
 .mk UR <| lU hL (an := pz lp G) (fun _ _ => obs (by kernel_rfl)) fun call a0 H n k => by kernel_rfl
def pq (lp : Aq) (G : AL) (call : AV) (k : KV) : An := .n
theorem UM {lp : Aq} (hL : Dk lp) (G : AL) : Oo G 35 (Jg (GV lp G)) :=
 .mk MI <| lU hL (an := pq lp G) (fun _ _ => obs (by kernel_rfl)) fun call a0 H n k => by kernel_rfl
def lS (lp : Aq) (G : AL) (call : AV) (k : KV) : An := (.s .n (.s .n (.j (fun R=>Jj lp G call k (rg R q1)) (.s .n (.b (.l _ (Rn lp G call k) (fun R H n=>(rg R q1, rg R q60, rg R q61, rg R q62, H, n)) fun ih127=>.n))) (.j (fun R=>Jl lp G call k (rg R q1)) (.s .n (.b (.l _ (Rh lp G call k) (fun R H n=>(rg R q1, rg R q72, rg R q73, rg R q74, H, n)) fun ih112=>.n))) (.j (fun R=>Jo lp G call k (rg R q1)) (.s .n (.b (.l _ (Td lp G call k) (fun R H n=>(rg R q1, rg R q85, rg R q86, rg R q87, H, n)) fun ih86=>.n))) (.j (fun R=>Ji lp G call k (rg R q1)) (.s .n (.b (.l _ (UD lp G call k) (fun R H n=>(rg R q1, rg R AN5, rg R AOh, rg R AOH, H, n)) fun ih64=>.n))) (.j (fun R=>Oh lp G call k) (.s .n (.b (.l _ (TJ lp G call k) (fun R H n=>(rg R ARA, rg R AP9, rg R AQ9, H, n)) fun ih49=>.n))) .n)))))))
theorem Xx {lp : Aq} (hL : Dk lp) (G : AL) : Oo G 37 (Jg (MH lp G)) :=
 .mk SH <| lU hL (an := lS lp G) (fun _ _ => obs (by kernel_rfl)) fun call a0 H n k => by kernel_rfl
def dK (lp : Aq) (G : AL) (call : AV) (k : KV) : An := (.s .n (.s .n (.j (fun R=>LG lp G call k) (.s .n (.b (.l _ (J6 lp G call k) (fun R H n=>(rg R q1, rg R q30, rg R q31, rg R q32, H, n)) fun ih24=>(.s .n (.s .n (.j (fun R=>Dz lp G call k ih24 (rg R q1) (rg R q30) (rg R q31) (rg R q32)) (.b (.s .n (.s .n (.s .n (.j (fun R=>Dy lp G call k ih24 (rg R q1) (rg R q4) (rg R q6) (rg R q30) (rg R q31) (rg R q32)) .n (.s .n (.s .n (.b (.l _ (KL lp G call k ih24) (fun R H n=>(rg R q1, rg R q4, rg R q30, rg R q31, rg R q32, rg R q83, rg R q84, rg R q85, H, n)) fun ih71=>.n))))))))) .n)))))) .n)))
theorem Ui {lp : Aq} (hL : Dk lp) (G : AL) : Oo G 38 (Jg (IK lp G)) :=
 .mk Oy <| lU hL (an := dK lp G) (fun _ _ => obs (by kernel_rfl)) fun call a0 H n k => by kernel_rfl
def AB5 (lp : Aq) (G : AL) (call : AV) (k : KV) : An := (.s .n (.s .n (.j (fun R=>XU lp G call k (rg R q3)) (.s .n (.b (.l _ (aX lp G call k) (fun R H n=>(rg R q3, rg R q10, rg R q11, rg R q12, H, n)) fun ih7=>.n))) .n)))
theorem oz {lp : Aq} (hL : Dk lp) (G : AL) : Oo G 39 (Jg (Vw lp G)) :=
 .mk Zv <| lU hL (an := AB5 lp G) (fun _ _ => obs (by kernel_rfl)) fun call a0 H n k => by kernel_rfl
def dD (lp : Aq) (G : AL) (call : AV) (k : KV) : An := (.s .n (.s .n (.s .n (.s .n (.s .n (.s .n (.j (fun R=>Hz lp G call k (rg R q0) (rg R q5)) (.s .n (.b (.l _ (KO lp G call k) (fun R H n=>(rg R q0, rg R q5, rg R q67, rg R q68, rg R q69, H, n)) fun ih74=>.n))) (.j (fun R=>LP lp G call k) (.s .n (.b (.l _ (QD lp G call k) (fun R H n=>(rg R q0, rg R q5, rg R q92, rg R q93, rg R q94, H, n)) fun ih37=>.n))) .n))))))))
theorem Ua {lp : Aq} (hL : Dk lp) (G : AL) : Oo G 40 (Rf (IY lp G)) :=
 .mk O3 <| sf2 hL (an := dD lp G) (fun _ _ => obs (by kernel_rfl)) fun call a0 a1 H n k => by kernel_rfl
def jH (lp : Aq) (G : AL) (call : AV) (k : KV) : An := (.s .n (.j (fun R=>N8 lp G call k (rg R q0) (rg R q3)) (.s .n (.b (.l _ (RU lp G call k) (fun R H n=>(rg R q0, rg R q3, rg R q17, rg R q18, rg R q19, H, n)) fun ih61=>.n))) (.s .n (.j (fun R=>Ig lp G call k (rg R q0) (rg R q3)) (.s .n (.b (.l _ (L8 lp G call k) (fun R H n=>(rg R q0, rg R q3, rg R q42, rg R q43, rg R q44, H, n)) fun ih30=>.n))) (.j (fun R=>NR lp G call k) (.s .n (.b (.l _ (QZ lp G call k) (fun R H n=>(rg R q0, rg R q73, rg R q74, rg R q75, H, n)) fun ih15=>.n))) .n)))))
theorem VN {lp : Aq} (hL : Dk lp) (G : AL) : Oo G 41 (Rf (JG lp G)) :=
 .mk P9 <| sf2 hL (an := jH lp G) (fun _ _ => obs (by kernel_rfl)) fun call a0 a1 H n k => by kernel_rfl
def iI (lp : Aq) (G : AL) (call : AV) (k : KV) : An := .n
theorem V9 {lp : Aq} (hL : Dk lp) (G : AL) : Oo G 42 (Rf (JK lp G)) :=
 .mk P5 <| sf2 hL (an := iI lp G) (fun _ _ => obs (by kernel_rfl)) fun call a0 a1 H n k => by kernel_rfl
def dR (lp : Aq) (G : AL) (call : AV) (k : KV) : An := (.s .n (.s .n (.j (fun R=>ND lp G call k (rg R q7)) (.s .n (.b (.l _ (Q8 lp G call k) (fun R H n=>(rg R q0, rg R q2, rg R q7, rg R q23, rg R q24, rg R q25, H, n)) fun ih9=>.n))) .n)))
theorem Ub {lp : Aq} (hL : Dk lp) (G : AL) : Oo G 43 (ar3 (IW lp G)) :=
 .mk Oq <| sf3 hL (an := dR lp G) (fun _ _ => obs (by kernel_rfl)) fun call a0 a1 a2 H n k => by kernel_rfl
def dH (lp : Aq) (G : AL) (call : AV) (k : KV) : An := (.s .n (.j (fun R=>NQ lp G call k (rg R q4)) (.s .n (.b (.l _ (Qi lp G call k) (fun R H n=>(rg R q1, rg R q4, rg R q9, rg R q10, rg R q11, H, n)) fun ih9=>.n))) .n))
theorem Ux {lp : Aq} (hL : Dk lp) (G : AL) : Oo G 44 (Rf (IV lp G)) :=
 .mk Ol <| sf2 hL (an := dH lp G) (fun _ _ => obs (by kernel_rfl)) fun call a0 a1 H n k => by kernel_rfl
def mV (lp : Aq) (G : AL) (call : AV) (k : KV) : An := .n
theorem X5 {lp : Aq} (hL : Dk lp) (G : AL) : Oo G 45 (Rf (MC lp G)) :=
 .mk SS <| sf2 hL (an := mV lp G) (fun _ _ => obs (by kernel_rfl)) fun call a0 a1 H n k => by kernel_rfl
def Qk (lp : Aq) (G : AL) (call : AV) (k : KV) : An := .n
theorem JV {lp : Aq} (hL : Dk lp) (G : AL) : Oo G 46 (Rf (Cc lp G)) :=
 .mk Ep <| sf2 hL (an := Qk lp G) (fun _ _ => obs (by kernel_rfl)) fun call a0 a1 H n k => by kernel_rfl
def dL (lp : Aq) (G : AL) (call : AV) (k : KV) : An := (.s .n (.j (fun R=>NV lp G call k) (.s .n (.b (.l _ (RX lp G call k) (fun R H n=>(rg R q0, rg R q9, rg R q10, rg R q11, H, n)) fun ih3=>(.s .n (.s .n (.j (fun R=>FU lp G call k ih3 (rg R q0) (rg R q9) (rg R q10) (rg R q11)) .n .n)))))) .n))
theorem Uf {lp : Aq} (hL : Dk lp) (G : AL) : Oo G 47 (Rf (IU lp G)) :=
 .mk O0 <| sf2 hL (an := dL lp G) (fun _ _ => obs (by kernel_rfl)) fun call a0 a1 H n k => by kernel_rfl
def ZF (lp : Aq) (G : AL) (call : AV) (k : KV) : An := (.s .n (.s .n (.s .n (.j (fun R=>EZ lp G call k (rg R q0) (rg R q3) (rg R q4)) .n (.s .n (.s .n (.s .n (.j (fun R=>JZ lp G call k) (.b (.l _ (Iu lp G call k) (fun R H n=>(rg R q0, H, n)) fun ih30=>.n)) .n))))))))
theorem Ro {lp : Aq} (hL : Dk lp) (G : AL) : Oo G 49 (Jg (GK lp G)) :=
 .mk NC <| lU hL (an := ZF lp G) (fun _ _ => obs (by kernel_rfl)) fun call a0 H n k => by kernel_rfl
def AFf (lp : Aq) (G : AL) (call : AV) (k : KV) : An := .n
theorem yE {lp : Aq} (hL : Dk lp) (G : AL) : Oo G 50 (Jg (Zx lp G)) :=
 .mk lK <| lU hL (an := AFf lp G) (fun _ _ => obs (by kernel_rfl)) fun call a0 H n k => by kernel_rfl
def Zi (lp : Aq) (G : AL) (call : AV) (k : KV) : An := (.s .n (.s .n (.j (fun R=>Lc lp G call k (rg R q9)) (.s .n (.b (.l _ (QO lp G call k) (fun R H n=>(rg R q0, rg R q2, rg R q3, rg R q9, rg R q25, rg R q26, rg R q27, H, n)) fun ih9=>.n))) .n)))
theorem TN {lp : Aq} (hL : Dk lp) (G : AL) : Oo G 53 (ar4 (Gz lp G)) :=
 .mk OE <| sf4 hL (an := Zi lp G) (fun _ _ => obs (by kernel_rfl)) fun call a0 a1 a2 a3 H n k => by kernel_rfl
def nD (lp : Aq) (G : AL) (call : AV) (k : KV) : An := .n
theorem Xg {lp : Aq} (hL : Dk lp) (G : AL) : Oo G 56 (Jg (MG lp G)) :=
 .mk Sl <| lU hL (an := nD lp G) (fun _ _ => obs (by kernel_rfl)) fun call a0 H n k => by kernel_rfl
def mD (lp : Aq) (G : AL) (call : AV) (k : KV) : An := (.s .n (.s .n (.j (fun R=>Ov lp G call k (rg R q1)) (.s .n (.b (.l _ (TV lp G call k) (fun R H n=>(rg R q1, rg R q32, rg R q33, rg R q34, H, n)) fun ih66=>.n))) (.j (fun R=>Oj lp G call k) (.s .n (.b (.l _ (TT lp G call k) (fun R H n=>(rg R q51, rg R q52, rg R q53, H, n)) fun ih26=>(.s .n (.s .n (.j (fun R=>Om lp G call k ih26 (rg R q51) (rg R q52) (rg R q53)) (.b (.s .n (.s .n (.s .n (.b (.l _ (TQ lp G call k ih26) (fun R H n=>(rg R q51, rg R q52, rg R q53, rg R q75, rg R q76, rg R q77, H, n)) fun ih52=>.n)))))) .n)))))) .n))))
theorem YC {lp : Aq} (hL : Dk lp) (G : AL) : Oo G 57 (Jg (MP lp G)) :=
 .mk SN <| lU hL (an := mD lp G) (fun _ _ => obs (by kernel_rfl)) fun call a0 H n k => by kernel_rfl
def iC (lp : Aq) (G : AL) (call : AV) (k : KV) : An := (.s .n (.s .n (.s .n (.j (fun R=>Nj lp G call k (rg R q1)) (.s .n (.b (.l _ (Hy lp G call k) (fun R H n=>(rg R q1, rg R q3, rg R q50, rg R q51, rg R q52, H, n)) fun ih77=>.n))) (.s .n (.j (fun R=>NP lp G call k) (.s .n (.b (.l _ (LH lp G call k) (fun R H n=>(rg R q3, rg R q76, rg R q77, rg R q78, H, n)) fun ih43=>.n))) .n))))))
theorem Vm {lp : Aq} (hL : Dk lp) (G : AL) : Oo G 58 (Jg (JW lp G)) :=
 .mk Pg <| lU hL (an := iC lp G) (fun _ _ => obs (by kernel_rfl)) fun call a0 H n k => by kernel_rfl
def dA (lp : Aq) (G : AL) (call : AV) (k : KV) : An := (.s .n (.j (fun R=>Na lp G call k (rg R q1)) (.s .n (.b (.l _ (KN lp G call k) (fun R H n=>(rg R q1, rg R q28, rg R q29, rg R q30, H, n)) fun ih97=>.n))) (.j (fun R=>NJ lp G call k (rg R q1)) (.s .n (.b (.l _ (KZ lp G call k) (fun R H n=>(rg R q1, rg R q38, rg R q39, rg R q40, H, n)) fun ih73=>.n))) (.j (fun R=>NZ lp G call k (rg R q1)) (.s .n (.b (.l _ (KG lp G call k) (fun R H n=>(rg R q1, rg R q49, rg R q50, rg R q51, H, n)) fun ih60=>.n))) (.j (fun R=>Md lp G call k (rg R q1)) (.s .n (.b (.l _ (KD lp G call k) (fun R H n=>(rg R q1, rg R q60, rg R q61, rg R q62, H, n)) fun ih29=>.n))) (.j (fun R=>Me lp G call k) (.s .n (.b (.l _ (J4 lp G call k) (fun R H n=>(rg R q92, rg R q93, rg R q94, H, n)) fun ih10=>.n))) .n))))))
theorem Us {lp : Aq} (hL : Dk lp) (G : AL) : Oo G 59 (Jg (IL lp G)) :=
 .mk Ot <| lU hL (an := dA lp G) (fun _ _ => obs (by kernel_rfl)) fun call a0 H n k => by kernel_rfl
def kG (lp : Aq) (G : AL) (call : AV) (k : KV) : An := .n
theorem WY {lp : Aq} (hL : Dk lp) (G : AL) : Oo G 60 (Rf (KY lp G)) :=
 .mk RG <| sf2 hL (an := kG lp G) (fun _ _ => obs (by kernel_rfl)) fun call a0 a1 H n k => by kernel_rfl
def gK (lp : Aq) (G : AL) (call : AV) (k : KV) : An := .n
theorem VT {lp : Aq} (hL : Dk lp) (G : AL) : Oo G 61 (Rf (JI lp G)) :=
 .mk Pz <| sf2 hL (an := gK lp G) (fun _ _ => obs (by kernel_rfl)) fun call a0 a1 H n k => by kernel_rfl
def wX (lp : Aq) (G : AL) (call : AV) (k : KV) : An := (.s .n (.j (fun R=>PU lp G call k (rg R q1)) (.s .n (.b (.l _ (WZ lp G call k) (fun R H n=>(rg R q1, rg R q7, rg R q8, H, n)) fun ih29=>.n))) (.j (fun R=>UQ lp G call k) (.s .n (.b (.l _ (X8 lp G call k) (fun R H n=>(rg R q1, rg R q32, rg R q33, H, n)) fun ih7=>.n))) .n)))
theorem fA {lp : Aq} (hL : Dk lp) (G : AL) : Oo G 62 (Jg (RV lp G)) :=
 .mk XJ <| lU hL (an := wX lp G) (fun _ _ => obs (by kernel_rfl)) fun call a0 H n k => by kernel_rfl
def iV (lp : Aq) (G : AL) (call : AV) (k : KV) : An := (.s .n (.j (fun R=>OD lp G call k (rg R q4)) (.s .n (.b (.l _ (Rk lp G call k) (fun R H n=>(rg R q1, rg R q4, rg R q9, rg R q10, rg R q11, H, n)) fun ih9=>.n))) .n))
theorem V3 {lp : Aq} (hL : Dk lp) (G : AL) : Oo G 63 (Rf (JX lp G)) :=
 .mk QA <| sf2 hL (an := iV lp G) (fun _ _ => obs (by kernel_rfl)) fun call a0 a1 H n k => by kernel_rfl
def QU (lp : Aq) (G : AL) (call : AV) (k : KV) : An := (.s .n (.s .n (.j (fun R=>ER lp G call k) (.s .n (.b (.l _ (Gq lp G call k) (fun R H n=>(rg R q0, rg R q1, rg R q12, rg R q13, H, n)) fun ih6=>.n))) .n)))
theorem Il {lp : Aq} (hL : Dk lp) (G : AL) : Oo G 64 (Rf (CY lp G)) :=
 .mk Ef <| sf2 hL (an := QU lp G) (fun _ _ => obs (by kernel_rfl)) fun call a0 a1 H n k => by kernel_rfl
def Tf (lp : Aq) (G : AL) (call : AV) (k : KV) : An := (.s .n (.j (fun R=>FC lp G call k) (.s .n (.b (.l _ (I8 lp G call k) (fun R H n=>(rg R q0, rg R q1, rg R q7, rg R q8, H, n)) fun ih3=>.n))) .n))
theorem Kv {lp : Aq} (hL : Dk lp) (G : AL) : Oo G 65 (Rf (DJ lp G)) :=
 .mk GR <| sf2 hL (an := Tf lp G) (fun _ _ => obs (by kernel_rfl)) fun call a0 a1 H n k => by kernel_rfl
def AA1 (lp : Aq) (G : AL) (call : AV) (k : KV) : An := .n
theorem jT {lp : Aq} (hL : Dk lp) (G : AL) : Oo G 66 (Jg (TG lp G)) :=
 .mk Yj <| lU hL (an := AA1 lp G) (fun _ _ => obs (by kernel_rfl)) fun call a0 H n k => by kernel_rfl
def kC (lp : Aq) (G : AL) (call : AV) (k : KV) : An := .n
theorem Wh {lp : Aq} (hL : Dk lp) (G : AL) : Oo G 67 (Jg (KW lp G)) :=
 .mk Qj <| lU hL (an := kC lp G) (fun _ _ => obs (by kernel_rfl)) fun call a0 H n k => by kernel_rfl
def Yi (lp : Aq) (G : AL) (call : AV) (k : KV) : An := (.s .n (.s .n (.s .n (.s .n (.s .n (.s .n (.j (fun R=>FM lp G call k (rg R q0) (rg R q1) (rg R q5) (rg R q7) (rg R q9)) (.s .n (.b (.l _ (Em lp G call k) (fun R H n=>(rg R q0, rg R q1, rg R q5, rg R q7, rg R q9, rg R q63, rg R q64, rg R q65, H, n)) fun ih93=>.n))) (.j (fun R=>D8 lp G call k (rg R q0) (rg R q1) (rg R q9)) (.s .n (.b (.l _ (Ib lp G call k) (fun R H n=>(rg R q0, rg R q1, rg R q7, rg R q9, rg R AN5, rg R AOh, rg R AOH, H, n)) fun ih53=>.n))) (.j (fun R=>FK lp G call k) .n .n)))))))))
theorem RY {lp : Aq} (hL : Dk lp) (G : AL) : Oo G 70 (ar3 (FW lp G)) :=
 .mk LQ <| sf3 hL (an := Yi lp G) (fun _ _ => obs (by kernel_rfl)) fun call a0 a1 a2 H n k => by kernel_rfl
def ZL (lp : Aq) (G : AL) (call : AV) (k : KV) : An := .n
theorem Ry {lp : Aq} (hL : Dk lp) (G : AL) : Oo G 71 (Jg (F9 lp G)) :=
 .mk NG <| lU hL (an := ZL lp G) (fun _ _ => obs (by kernel_rfl)) fun call a0 H n k => by kernel_rfl
def Yo (lp : Aq) (G : AL) (call : AV) (k : KV) : An := (.s .n (.s .n (.s (.s .n (.b (.s .n (.c .n (.s .n (.c .n (.s .n (.c .n (.s .n (.c .n (.s .n (.c .n (.j (fun R=>BN lp G call k (rg R q0) (rg R q1) (rg R q5) (rg R q7) (rg R q8) (rg R q20) (rg R q80)) .n (.c .n (.j (fun R=>CV lp G call k (rg R q0) (rg R q1) (rg R q5) (rg R q7) (rg R q8) (rg R q20) (rg R q98)) .n (.c .n (.s .n (.c .n (.s .n (.c .n (.j (fun R=>CS lp G call k (rg R q0) (rg R q1) (rg R q5) (rg R q7) (rg R q8) (rg R q20) (rg R AQq)) .n .n))))))))))))))))))))) .n)))
theorem RP {lp : Aq} (hL : Dk lp) (G : AL) : Oo G 72 (ar3 (FT lp G)) :=
 .mk La <| sf3 hL (an := Yo lp G) (fun _ _ => obs (by kernel_rfl)) fun call a0 a1 a2 H n k => by kernel_rfl
def Xv (lp : Aq) (G : AL) (call : AV) (k : KV) : An := .n
theorem QG {lp : Aq} (hL : Dk lp) (G : AL) : Oo G 73 (ar3 (E5 lp G)) :=
 .mk J7 <| sf3 hL (an := Xv lp G) (fun _ _ => obs (by kernel_rfl)) fun call a0 a1 a2 H n k => by kernel_rfl
def jC (lp : Aq) (G : AL) (call : AV) (k : KV) : An := .n
theorem WE {lp : Aq} (hL : Dk lp) (G : AL) : Oo G 77 (ar3 (JB lp G)) :=
 .mk PW <| sf3 hL (an := jC lp G) (fun _ _ => obs (by kernel_rfl)) fun call a0 a1 a2 H n k => by kernel_rfl
def ABA (lp : Aq) (G : AL) (call : AV) (k : KV) : An := .n
theorem pI {lp : Aq} (hL : Dk lp) (G : AL) : Oo G 79 (ar0 (VX lp G)) :=
 .mk Z4 <| sf0 hL (an := ABA lp G) (fun _ _ => obs (by kernel_rfl)) fun call  H n k => by kernel_rfl
def sS (lp : Aq) (G : AL) (call : AV) (k : KV) : An := .n
theorem aP {lp : Aq} (hL : Dk lp) (G : AL) : Oo G 81 (ar0 (PL lp G)) :=
 .mk VR <| sf0 hL (an := sS lp G) (fun _ _ => obs (by kernel_rfl)) fun call  H n k => by kernel_rfl
def gU (lp : Aq) (G : AL) (call : AV) (k : KV) : An := .n
theorem Vs {lp : Aq} (hL : Dk lp) (G : AL) : Oo G 82 (Jg (JO lp G)) :=
 .mk PX <| lU hL (an := gU lp G) (fun _ _ => obs (by kernel_rfl)) fun call a0 H n k => by kernel_rfl
def lu (lp : Aq) (G : AL) (call : AV) (k : KV) : An := .n
theorem Xu {lp : Aq} (hL : Dk lp) (G : AL) : Oo G 83 (Jg (ML lp G)) :=
 .mk SK <| lU hL (an := lu lp G) (fun _ _ => obs (by kernel_rfl)) fun call a0 H n k => by kernel_rfl
def Mc (lp : Aq) (G : AL) (call : AV) (k : KV) : An := .n
theorem FN {lp : Aq} (hL : Dk lp) (G : AL) : Oo G 90 (Rf (BZ lp G)) :=
 .mk DW <| sf2 hL (an := Mc lp G) (fun _ _ => obs (by kernel_rfl)) fun call a0 a1 H n k => by kernel_rfl
def Zy (lp : Aq) (G : AL) (call : AV) (k : KV) : An := .n
theorem UF {lp : Aq} (hL : Dk lp) (G : AL) : Oo G 91 (Jg (Gs lp G)) :=
 .mk Ny <| lU hL (an := Zy lp G) (fun _ _ => obs (by kernel_rfl)) fun call a0 H n k => by kernel_rfl
def rY (lp : Aq) (G : AL) (call : AV) (k : KV) : An := .n
theorem Z9 {lp : Aq} (hL : Dk lp) (G : AL) : Oo G 92 (Jg (PE lp G)) :=
 .mk VZ <| lU hL (an := rY lp G) (fun _ _ => obs (by kernel_rfl)) fun call a0 H n k => by kernel_rfl
def AAR (lp : Aq) (G : AL) (call : AV) (k : KV) : An := .n
theorem jW {lp : Aq} (hL : Dk lp) (G : AL) : Oo G 93 (Jg (Tj lp G)) :=
 .mk Yk <| lU hL (an := AAR lp G) (fun _ _ => obs (by kernel_rfl)) fun call a0 H n k => by kernel_rfl
def au (lp : Aq) (G : AL) (call : AV) (k : KV) : An := .n
theorem TK {lp : Aq} (hL : Dk lp) (G : AL) : Oo G 94 (ar3 (G8 lp G)) :=
 .mk OL <| sf3 hL (an := au lp G) (fun _ _ => obs (by kernel_rfl)) fun call a0 a1 a2 H n k => by kernel_rfl
def vS (lp : Aq) (G : AL) (call : AV) (k : KV) : An := (.s .n (.j (fun R=>KH lp G call k (rg R q6)) .n .n))
theorem aj {lp : Aq} (hL : Dk lp) (G : AL) : Oo G 95 (ar3 (PK lp G)) :=
 .mk WB <| sf3 hL (an := vS lp G) (fun _ _ => obs (by kernel_rfl)) fun call a0 a1 a2 H n k => by kernel_rfl
def QW (lp : Aq) (G : AL) (call : AV) (k : KV) : An := .n
theorem Ip {lp : Aq} (hL : Dk lp) (G : AL) : Oo G 96 (Jg (CX lp G)) :=
 .mk Eh <| lU hL (an := QW lp G) (fun _ _ => obs (by kernel_rfl)) fun call a0 H n k => by kernel_rfl
def Yt (lp : Aq) (G : AL) (call : AV) (k : KV) : An := .n
theorem Qn {lp : Aq} (hL : Dk lp) (G : AL) : Oo G 97 (ar3 (FV lp G)) :=
 .mk Le <| sf3 hL (an := Yt lp G) (fun _ _ => obs (by kernel_rfl)) fun call a0 a1 a2 H n k => by kernel_rfl
def Zg (lp : Aq) (G : AL) (call : AV) (k : KV) : An := .n
theorem UA {lp : Aq} (hL : Dk lp) (G : AL) : Oo G 98 (Jg (Gx lp G)) :=
 .mk OB <| lU hL (an := Zg lp G) (fun _ _ => obs (by kernel_rfl)) fun call a0 H n k => by kernel_rfl
def ZI (lp : Aq) (G : AL) (call : AV) (k : KV) : An := (.s .n (.j (fun R=>KT lp G call k) (.s .n (.b (.l _ (PG lp G call k) (fun R H n=>(rg R q0, rg R q1, rg R q2, rg R q7, H, n)) fun ih4=>.n))) .n))
theorem Rq {lp : Aq} (hL : Dk lp) (G : AL) : Oo G 99 (ar3 (GY lp G)) :=
 .mk NK <| sf3 hL (an := ZI lp G) (fun _ _ => obs (by kernel_rfl)) fun call a0 a1 a2 H n k => by kernel_rfl
def XM (lp : Aq) (G : AL) (call : AV) (k : KV) : An := (.s .n (.s (.s .n (.b (.s .n (.c .n (.s .n (.c .n (.j (fun R=>CZ lp G call k (rg R q0) (rg R q1) (rg R q5) (rg R q14) (rg R q66)) .n (.c (.s .n (.s .n (.j (fun R=>Bq lp G call k (rg R q0) (rg R q1) (rg R q7) (rg R q8) (rg R q9)) .n .n))) (.s .n (.c .n (.s .n (.c .n (.j (fun R=>CW lp G call k (rg R q0) (rg R q1) (rg R q5) (rg R AQD)) .n .n))))))))))))) .n))
theorem O6 {lp : Aq} (hL : Dk lp) (G : AL) : Oo G 100 (ar3 (Ec lp G)) :=
 .mk JY <| sf3 hL (an := XM lp G) (fun _ _ => obs (by kernel_rfl)) fun call a0 a1 a2 H n k => by kernel_rfl
def dI (lp : Aq) (G : AL) (call : AV) (k : KV) : An := .n
theorem Uc {lp : Aq} (hL : Dk lp) (G : AL) : Oo G 103 (ar3 (IQ lp G)) :=
 .mk Oi <| sf3 hL (an := dI lp G) (fun _ _ => obs (by kernel_rfl)) fun call a0 a1 a2 H n k => by kernel_rfl
def OZ (lp : Aq) (G : AL) (call : AV) (k : KV) : An := (.s .n (.j (fun R=>Dj lp G call k) (.s .n (.b (.l _ (Fb lp G call k) (fun R H n=>(rg R q0, rg R q1, rg R q7, rg R q8, H, n)) fun ih3=>.n))) .n))
theorem Gf {lp : Aq} (hL : Dk lp) (G : AL) : Oo G 108 (Rf (Bl lp G)) :=
 .mk D6 <| sf2 hL (an := OZ lp G) (fun _ _ => obs (by kernel_rfl)) fun call a0 a1 H n k => by kernel_rfl
def Zn (lp : Aq) (G : AL) (call : AV) (k : KV) : An := (.s .n (.s .n (.j (fun R=>LZ lp G call k) (.s .n (.b (.l _ (QC lp G call k) (fun R H n=>(rg R q0, rg R q2, rg R q17, rg R q18, rg R q19, H, n)) fun ih6=>.n))) .n)))
theorem TL {lp : Aq} (hL : Dk lp) (G : AL) : Oo G 109 (ar3 (HY lp G)) :=
 .mk OI <| sf3 hL (an := Zn lp G) (fun _ _ => obs (by kernel_rfl)) fun call a0 a1 a2 H n k => by kernel_rfl
def YI (lp : Aq) (G : AL) (call : AV) (k : KV) : An := .n
theorem QI {lp : Aq} (hL : Dk lp) (G : AL) : Oo G 110 (ar3 (Eu lp G)) :=
 .mk KF <| sf3 hL (an := YI lp G) (fun _ _ => obs (by kernel_rfl)) fun call a0 a1 a2 H n k => by kernel_rfl
def FS (lp : Aq) (G : AL) : T SF := (.n none (.n none (.n none (.n none (.n none (.n (some (Rf (eu lp G))) (.n (some (Rf (JX lp G))) .e .e) (.n (some (ar3 (PK lp G))) .e .e)) (.n (some (Rf (IU lp G))) (.n (some (ar0 (VX lp G))) .e .e) .e)) (.n none (.n (some (Jg (Vw lp G))) (.n (some (Jg (F9 lp G))) .e .e) (.n (some (ar3 (IQ lp G))) .e .e)) .e)) (.n none (.n (some (Rf (IJ lp G))) (.n (some (Jg (GV lp G))) (.n (some (Jg (KW lp G))) .e .e) (.n (some (ar3 (GY lp G))) .e .e)) (.n none (.n (some (Jg (ML lp G))) .e .e) .e)) (.n none (.n (some (ar3 (IW lp G))) .e .e) (.n (some (Jg (IL lp G))) (.n (some (Jg (Gs lp G))) .e .e) .e)))) (.n none (.n none (.n (some (Rf (JQ lp G))) (.n (some (ar3 (Y4 lp G))) (.n (some (Rf (DJ lp G))) .e .e) (.n (some (ar3 (FV lp G))) .e .e)) (.n (some (Jg (GK lp G))) (.n (some (ar0 (PL lp G))) .e .e) .e)) (.n (some (ar0 (X9 lp G))) (.n (some (Rf (JG lp G))) (.n (some (ar3 (E5 lp G))) .e .e) .e) (.n (some (Jg (MP lp G))) .e .e))) (.n (some (Jg (MK lp G))) (.n (some (Rf (Iz lp G))) (.n (some (Jg (MH lp G))) .e .e) (.n (some (ar4 (Gz lp G))) .e .e)) (.n (some (ar0 (YH lp G))) (.n (some (Rf (MC lp G))) (.n (some (ar3 (JB lp G))) .e .e) (.n (some (ar3 (HY lp G))) .e .e)) (.n (some (Rf (JI lp G))) (.n (some (Jg (Tj lp G))) .e .e) .e))))) (.n none (.n none (.n none (.n none (.n (some (Jg (I9 lp G))) (.n (some (Rf (CY lp G))) .e .e) (.n (some (Jg (CX lp G))) .e .e)) .e) (.n none (.n (some (Rf (IY lp G))) (.n (some (ar3 (FT lp G))) .e .e) .e) (.n (some (Jg (MG lp G))) .e .e))) (.n none (.n none (.n none .e (.n (some (ar3 (Ec lp G))) .e .e)) .e) (.n none (.n (some (Rf (IV lp G))) .e (.n (some (Rf (Bl lp G))) .e .e)) (.n (some (Rf (KY lp G))) (.n (some (Jg (PE lp G))) .e .e) .e)))) (.n none (.n (some (ar5 (Eo lp G))) (.n (some (Jg (Ie lp G))) (.n (some (Jg (OG lp G))) (.n (some (Jg (TG lp G))) .e .e) (.n (some (Jg (Gx lp G))) .e .e)) (.n (some (Jg (Zx lp G))) (.n (some (Jg (JO lp G))) .e .e) .e)) (.n (some (Jg (Nz lp G))) (.n (some (Rf (JK lp G))) .e .e) (.n (some (Jg (JW lp G))) (.n (some (Rf (BZ lp G))) .e .e) .e))) (.n (some (Jg (TW lp G))) (.n none (.n (some (Jg (IK lp G))) (.n (some (ar3 (FW lp G))) .e .e) .e) .e) (.n none (.n (some (Rf (Cc lp G))) .e (.n (some (ar3 (Eu lp G))) .e .e)) (.n (some (Jg (RV lp G))) (.n (some (ar3 (G8 lp G))) .e .e) .e))))))
theorem ANM {lp : Aq} (hL : Dk lp) (G : AL) : T.All (fun p s => Oo G p.key s) (FS lp G) := (.n0 (.n0 (.n0 (.n0 (.n0 (.n1 (uI hL G) (.n1 (V3 hL G) .e .e) (.n1 (aj hL G) .e .e)) (.n1 (Uf hL G) (.n1 (pI hL G) .e .e) .e)) (.n0 (.n1 (oz hL G) (.n1 (Ry hL G) .e .e) (.n1 (Uc hL G) .e .e)) .e)) (.n0 (.n1 (Uk hL G) (.n1 (UM hL G) (.n1 (Wh hL G) .e .e) (.n1 (Rq hL G) .e .e)) (.n0 (.n1 (Xu hL G) .e .e) .e)) (.n0 (.n1 (Ub hL G) .e .e) (.n1 (Us hL G) (.n1 (UF hL G) .e .e) .e)))) (.n0 (.n0 (.n1 (VL hL G) (.n1 (nG hL G) (.n1 (Kv hL G) .e .e) (.n1 (Qn hL G) .e .e)) (.n1 (Ro hL G) (.n1 (aP hL G) .e .e) .e)) (.n1 (je hL G) (.n1 (VN hL G) (.n1 (QG hL G) .e .e) .e) (.n1 (YC hL G) .e .e))) (.n1 (YK hL G) (.n1 (Vq hL G) (.n1 (Xx hL G) .e .e) (.n1 (TN hL G) .e .e)) (.n1 (uT hL G) (.n1 (X5 hL G) (.n1 (WE hL G) .e .e) (.n1 (TL hL G) .e .e)) (.n1 (VT hL G) (.n1 (jW hL G) .e .e) .e))))) (.n0 (.n0 (.n0 (.n0 (.n1 (Vo hL G) (.n1 (Il hL G) .e .e) (.n1 (Ip hL G) .e .e)) .e) (.n0 (.n1 (Ua hL G) (.n1 (RP hL G) .e .e) .e) (.n1 (Xg hL G) .e .e))) (.n0 (.n0 (.n0 .e (.n1 (O6 hL G) .e .e)) .e) (.n0 (.n1 (Ux hL G) .e (.n1 (Gf hL G) .e .e)) (.n1 (WY hL G) (.n1 (Z9 hL G) .e .e) .e)))) (.n0 (.n1 (QS hL G) (.n1 (Uo hL G) (.n1 (Y6 hL G) (.n1 (jT hL G) .e .e) (.n1 (UA hL G) .e .e)) (.n1 (yE hL G) (.n1 (Vs hL G) .e .e) .e)) (.n1 (Y8 hL G) (.n1 (V9 hL G) .e .e) (.n1 (Vm hL G) (.n1 (FN hL G) .e .e) .e))) (.n1 (jV hL G) (.n0 (.n1 (Ui hL G) (.n1 (RY hL G) .e .e) .e) .e) (.n0 (.n1 (JV hL G) .e (.n1 (QI hL G) .e .e)) (.n1 (fA hL G) (.n1 (TK hL G) .e .e) .e))))))
theorem AOc {lp : Aq} (hL : Dk lp) (G : AL) : AHd F G (FS lp G) := fun f s h => by
 have := T.All.C9 (p := MN f) (ANM hL G) h
 rw [qg] at this
 obtain ⟨h, o⟩ := this
 exact ⟨_, h, o⟩
end Go.RL
