/- Part of a proof: texts PQSi PQSt of the engine and what is proved with it; nothing is assumed. -/
import Derived.Test.YtcjkfmaoahojeaaDoorPlain
import Derived.Test.YtcjkfmaoahojeaaDoorCode
import Derived.Test.YtcjkfmaoahojeaaDoorEngE
set_option linter.unusedVariables false
set_option linter.unusedSimpArgs false
namespace Go.PQ
open Go.Eng
set_option maxRecDepth 100000
inductive Np (G : AP) (n : Nat) (s : SF) : Prop where
 | mk {af : AF} (h : T.get F n = some af) (o : iV G af s) : Np G n s
noncomputable def X5 (lp : BA) (G : AP) (call : AQ) (k : KV) : An := (.s .n (.s .n (.s .n (.s .n (.s .n (.s .n (.s .n (.s .n (.s .n (.s .n (.s .n (.s .n (.j (fun R=>EM lp G call k (rg R q2) (rg R q3) (rg R q4) (rg R q13) (rg R q14) (rg R q15) (rg R q16) (rg R q17) (rg R q18) (rg R q19)) .n .n)))))))))))))
theorem QC {lp : BA} (hL : Dk lp) (G : AP) : Np G 7 (ar6 (FV lp G)) :=
 .mk Kq <| sf6 hL (an := X5 lp G) (fun _ _ => obs (by kernel_rfl)) fun call a0 a1 a2 a3 a4 a5 H n k => by kernel_rfl
noncomputable def lD (lp : BA) (G : AP) (call : AQ) (k : KV) : An := .n
theorem WW {lp : BA} (hL : Dk lp) (G : AP) : Np G 9 (ar0 (LJ lp G)) :=
 .mk QV <| sf0 hL (an := lD lp G) (fun _ _ => obs (by kernel_rfl)) fun call  H n k => by kernel_rfl
noncomputable def uw (lp : BA) (G : AP) (call : AQ) (k : KV) : An := .n
theorem dJ {lp : BA} (hL : Dk lp) (G : AP) : Np G 10 (Eu (PI lp G)) :=
 .mk Vw <| Xi hL (an := uw lp G) (fun _ _ => obs (by kernel_rfl)) fun call a0 H n k => by kernel_rfl
noncomputable def WO (lp : BA) (G : AP) (call : AQ) (k : KV) : An := .n
theorem Ou {lp : BA} (hL : Dk lp) (G : AP) : Np G 17 (Eu (Ef lp G)) :=
 .mk JY <| Xi hL (an := WO lp G) (fun _ _ => obs (by kernel_rfl)) fun call a0 H n k => by kernel_rfl
noncomputable def WU (lp : BA) (G : AP) (call : AQ) (k : KV) : An := (.s .n (.s .n (.j (fun R=>DJ lp G call k (rg R q6) (rg R q7)) .n .n)))
theorem Oj {lp : BA} (hL : Dk lp) (G : AP) : Np G 18 (ar3 (Eo lp G)) :=
 .mk JW <| sf3 hL (an := WU lp G) (fun _ _ => obs (by kernel_rfl)) fun call a0 a1 a2 H n k => by kernel_rfl
noncomputable def mY (lp : BA) (G : AP) (call : AQ) (k : KV) : An := .n
theorem Ry {lp : BA} (hL : Dk lp) (G : AP) : Np G 19 (Eu (Fz lp G)) :=
 .mk LD <| Xi hL (an := mY lp G) (fun _ _ => obs (by kernel_rfl)) fun call a0 H n k => by kernel_rfl
noncomputable def Zu (lp : BA) (G : AP) (call : AQ) (k : KV) : An := .n
theorem UN {lp : BA} (hL : Dk lp) (G : AP) : Np G 20 (QM (IK lp G)) :=
 .mk OH <| sf2 hL (an := Zu lp G) (fun _ _ => obs (by kernel_rfl)) fun call a0 a1 H n k => by kernel_rfl
noncomputable def mQ (lp : BA) (G : AP) (call : AQ) (k : KV) : An := .n
theorem YM {lp : BA} (hL : Dk lp) (G : AP) : Np G 21 (QM (MW lp G)) :=
 .mk SX <| sf2 hL (an := mQ lp G) (fun _ _ => obs (by kernel_rfl)) fun call a0 a1 H n k => by kernel_rfl
noncomputable def ACo (lp : BA) (G : AP) (call : AQ) (k : KV) : An := (.s .n (.s .n (.s .n (.s .n (.b (.l _ (Zv lp G call k) (fun R H n=>(rg R q3, rg R q4, rg R q5, H, n)) fun ih12=>.n))))))
theorem rU {lp : BA} (hL : Dk lp) (G : AP) : Np G 24 (Eu (Xu lp G)) :=
 .mk gX <| Xi hL (an := ACo lp G) (fun _ _ => obs (by kernel_rfl)) fun call a0 H n k => by kernel_rfl
noncomputable def ZX (lp : BA) (G : AP) (call : AQ) (k : KV) : An := (.s .n (.s .n (.s .n (.s .n (.j (fun R=>En lp G call k (rg R q0) (rg R q2) (rg R q3)) .n (.s .n (.j (fun R=>Gl lp G call k (rg R q0) (rg R q2) (rg R q3)) (.b (.l _ (Og lp G call k) (fun R H n=>(rg R q0, rg R q2, rg R q3, H, n)) fun ih34=>.n)) (.j (fun R=>Ed lp G call k (rg R q2) (rg R q3)) .n .n))))))))
theorem Rx {lp : BA} (hL : Dk lp) (G : AP) : Np G 25 (Eu (Gy lp G)) :=
 .mk NH <| Xi hL (an := ZX lp G) (fun _ _ => obs (by kernel_rfl)) fun call a0 H n k => by kernel_rfl
noncomputable def gQ (lp : BA) (G : AP) (call : AQ) (k : KV) : An := .n
theorem Vp {lp : BA} (hL : Dk lp) (G : AP) : Np G 26 (Eu (Jo lp G)) :=
 .mk Pj <| Xi hL (an := gQ lp G) (fun _ _ => obs (by kernel_rfl)) fun call a0 H n k => by kernel_rfl
noncomputable def TL (lp : BA) (G : AP) (call : AQ) (k : KV) : An := (.s .n (.s (.s .n (.c (.s .n (.s .n (.s .n (.j (fun R=>EH lp G call k (rg R q0) (rg R q5) (rg R q6)) .n .n)))) .n)) .n))
theorem LX {lp : BA} (hL : Dk lp) (G : AP) : Np G 29 (QM (Dl lp G)) :=
 .mk Gw <| sf2 hL (an := TL lp G) (fun _ _ => obs (by kernel_rfl)) fun call a0 a1 H n k => by kernel_rfl
noncomputable def Hl (lp : BA) (G : AP) (call : AQ) (k : KV) : An := (.s .n (.s .n (.j (fun R=>CJ lp G call k) (.s .n (.b (.l _ (DZ lp G call k) (fun R H n=>(rg R q1, rg R q2, rg R q15, rg R q16, rg R q17, H, n)) fun ih6=>.n))) .n)))
theorem Dj {lp : BA} (hL : Dk lp) (G : AP) : Np G 30 (ar3 (BD lp G)) :=
 .mk CS <| sf3 hL (an := Hl lp G) (fun _ _ => obs (by kernel_rfl)) fun call a0 a1 a2 H n k => by kernel_rfl
noncomputable def jZ (lp : BA) (G : AP) (call : AQ) (k : KV) : An := (.b (.l _ (UF lp G call k) (fun R H n=>(rg R q0, H, n)) fun ih1=>(.s .n (.b (.s .n (.b (.s .n (.c .n (.s .n (.c (.s .n (.j (fun R=>EL lp G call k ih1 (rg R q0) (rg R q3)) .n .n)) .n))))))))))
theorem XF {lp : BA} (hL : Dk lp) (G : AP) : Np G 38 (Eu (LK lp G)) :=
 .mk QO <| Xi hL (an := jZ lp G) (fun _ _ => obs (by kernel_rfl)) fun call a0 H n k => by kernel_rfl
noncomputable def jK (lp : BA) (G : AP) (call : AQ) (k : KV) : An := (.s .n (.s .n (.s .n (.s .n (.j (fun R=>Cc lp G call k (rg R q0) (rg R q2) (rg R q4)) (.b (.s .n (.c .n (.s .n (.c .n (.s .n (.c .n (.s .n (.b (.l _ (RX lp G call k) (fun R H n=>(rg R q0, rg R q2, rg R q4, rg R q34, rg R q35, H, n)) fun ih81=>.n)))))))))) .n)))))
theorem WZ {lp : BA} (hL : Dk lp) (G : AP) : Np G 39 (Eu (LQ lp G)) :=
 .mk Qz <| Xi hL (an := jK lp G) (fun _ _ => obs (by kernel_rfl)) fun call a0 H n k => by kernel_rfl
noncomputable def aV (lp : BA) (G : AP) (call : AQ) (k : KV) : An := (.s .n (.b (.l _ (P9 lp G call k) (fun R H n=>(rg R q0, rg R q6, rg R q7, rg R q8, H, n)) fun ih2=>(.s .n (.s .n (.j (fun R=>Fe lp G call k ih2 (rg R q0) (rg R q6) (rg R q7) (rg R q8)) .n .n))))))
theorem UD {lp : BA} (hL : Dk lp) (G : AP) : Np G 40 (QM (Hy lp G)) :=
 .mk OI <| sf2 hL (an := aV lp G) (fun _ _ => obs (by kernel_rfl)) fun call a0 a1 H n k => by kernel_rfl
noncomputable def aU (lp : BA) (G : AP) (call : AQ) (k : KV) : An := .n
theorem TK {lp : BA} (hL : Dk lp) (G : AP) : Np G 41 (QM (IE lp G)) :=
 .mk OG <| sf2 hL (an := aU lp G) (fun _ _ => obs (by kernel_rfl)) fun call a0 a1 H n k => by kernel_rfl
noncomputable def bY (lp : BA) (G : AP) (call : AQ) (k : KV) : An := .n
theorem UA {lp : BA} (hL : Dk lp) (G : AP) : Np G 42 (QM (IG lp G)) :=
 .mk OO <| sf2 hL (an := bY lp G) (fun _ _ => obs (by kernel_rfl)) fun call a0 a1 H n k => by kernel_rfl
noncomputable def fE (lp : BA) (G : AP) (call : AQ) (k : KV) : An := (.s .n (.s .n (.j (fun R=>GN lp G call k (rg R q2) (rg R q3)) .n .n)))
theorem VH {lp : BA} (hL : Dk lp) (G : AP) : Np G 43 (Eu (I9 lp G)) :=
 .mk Oz <| Xi hL (an := fE lp G) (fun _ _ => obs (by kernel_rfl)) fun call a0 H n k => by kernel_rfl
noncomputable def aI (lp : BA) (G : AP) (call : AQ) (k : KV) : An := .n
theorem S9 {lp : BA} (hL : Dk lp) (G : AP) : Np G 44 (QM (IU lp G)) :=
 .mk OM <| sf2 hL (an := aI lp G) (fun _ _ => obs (by kernel_rfl)) fun call a0 a1 H n k => by kernel_rfl
noncomputable def iJ (lp : BA) (G : AP) (call : AQ) (k : KV) : An := (.s .n (.j (fun R=>OD lp G call k) (.s .n (.b (.l _ (RV lp G call k) (fun R H n=>(rg R q0, rg R q7, rg R q8, rg R q9, H, n)) fun ih3=>.n))) .n))
theorem Vj {lp : BA} (hL : Dk lp) (G : AP) : Np G 45 (QM (Jm lp G)) :=
 .mk Pq <| sf2 hL (an := iJ lp G) (fun _ _ => obs (by kernel_rfl)) fun call a0 a1 H n k => by kernel_rfl
noncomputable def Y5 (lp : BA) (G : AP) (call : AQ) (k : KV) : An := (.s .n (.s .n (.s .n (.s .n (.s .n (.s .n (.s .n (.j (fun R=>F9 lp G call k (rg R q0) (rg R q2) (rg R q4)) (.b (.l _ (OB lp G call k) (fun R H n=>(rg R q0, rg R q2, rg R q4, H, n)) fun ih31=>(.s .n (.b (.j (fun R=>ES lp G call k ih31 (rg R q0) (rg R q2) (rg R q4)) .n .n))))) .n))))))))
theorem Qr {lp : BA} (hL : Dk lp) (G : AP) : Np G 46 (Eu (GR lp G)) :=
 .mk MG <| Xi hL (an := Y5 lp G) (fun _ _ => obs (by kernel_rfl)) fun call a0 H n k => by kernel_rfl
noncomputable def bn (lp : BA) (G : AP) (call : AQ) (k : KV) : An := .n
theorem Tc {lp : BA} (hL : Dk lp) (G : AP) : Np G 47 (QM (Ic lp G)) :=
 .mk Nz <| sf2 hL (an := bn lp G) (fun _ _ => obs (by kernel_rfl)) fun call a0 a1 H n k => by kernel_rfl
noncomputable def WS (lp : BA) (G : AP) (call : AQ) (k : KV) : An := .n
theorem Oi {lp : BA} (hL : Dk lp) (G : AP) : Np G 48 (Eu (Es lp G)) :=
 .mk JU <| Xi hL (an := WS lp G) (fun _ _ => obs (by kernel_rfl)) fun call a0 H n k => by kernel_rfl
noncomputable def TT (lp : BA) (G : AP) (call : AQ) (k : KV) : An := .n
theorem Lc {lp : BA} (hL : Dk lp) (G : AP) : Np G 49 (Eu (Dq lp G)) :=
 .mk Gu <| Xi hL (an := TT lp G) (fun _ _ => obs (by kernel_rfl)) fun call a0 H n k => by kernel_rfl
noncomputable def QT (lp : BA) (G : AP) (call : AQ) (k : KV) : An := (.s .n (.j (fun R=>Dh lp G call k (rg R q0) (rg R q1) (rg R q4)) (.b (.l _ (IW lp G call k) (fun R H n=>(rg R q0, rg R q1, rg R q4, H, n)) fun ih51=>.n)) (.s .n (.j (fun R=>Cj lp G call k (rg R q0) (rg R q4) (rg R q12)) .n (.j (fun R=>C9 lp G call k (rg R q0) (rg R q4) (rg R q12)) .n .n)))))
theorem Jb {lp : BA} (hL : Dk lp) (G : AP) : Np G 50 (QM (DY lp G)) :=
 .mk Fb <| sf2 hL (an := QT lp G) (fun _ _ => obs (by kernel_rfl)) fun call a0 a1 H n k => by kernel_rfl
noncomputable def SG (lp : BA) (G : AP) (call : AQ) (k : KV) : An := (.s .n (.j (fun R=>FP lp G call k (rg R q0) (rg R q1) (rg R q2) (rg R q3) (rg R q4) (rg R q10) (rg R q11)) .n (.s .n (.s .n (.j (fun R=>FY lp G call k (rg R q0) (rg R q1) (rg R q2) (rg R q3) (rg R q4) (rg R q10) (rg R q11) (rg R q12) (rg R q13)) .n (.j (fun R=>FW lp G call k (rg R q0) (rg R q3) (rg R q4) (rg R q10) (rg R q11) (rg R q12) (rg R q13)) (.s .n (.c (.s .n (.s .n (.s .n (.j (fun R=>JR lp G call k (rg R q0) (rg R q1) (rg R q3) (rg R q4) (rg R q10) (rg R q11) (rg R q12) (rg R q13)) (.b (.l _ (JB lp G call k) (fun R H n=>(rg R q0, rg R q1, rg R q3, rg R q4, rg R q10, rg R q11, rg R q12, rg R q13, rg R q14, rg R q15, rg R q16, H, n)) fun ih25=>.n)) .n)))) (.s .n (.j (fun R=>JO lp G call k (rg R q0) (rg R q1) (rg R q3) (rg R q4) (rg R q10) (rg R q11) (rg R q12) (rg R q13)) (.b (.l _ (I7 lp G call k) (fun R H n=>(rg R q0, rg R q1, rg R q3, rg R q4, rg R q10, rg R q11, rg R q12, rg R q13, rg R q17, H, n)) fun ih39=>.n)) .n)))) (.j (fun R=>Fj lp G call k (rg R q0) (rg R q4) (rg R q10) (rg R q11) (rg R q12) (rg R q13)) .n .n)))))))
theorem Rz {lp : BA} (hL : Dk lp) (G : AP) : Np G 51 (ar5 (LY lp G)) :=
 .mk SC <| sf5 hL (an := SG lp G) (fun _ _ => obs (by kernel_rfl)) fun call a0 a1 a2 a3 a4 H n k => by kernel_rfl
noncomputable def ji (lp : BA) (G : AP) (call : AQ) (k : KV) : An := (.s .n (.b (.l _ (TW lp G call k) (fun R H n=>(rg R q0, rg R q4, rg R q5, H, n)) fun ih1=>(.s .n (.s .n (.s (.b (.s .n (.j (fun R=>Hf lp G call k ih1 (rg R q0) (rg R q4) (rg R q5)) .n .n))) .n))))))
theorem Wh {lp : BA} (hL : Dk lp) (G : AP) : Np G 58 (QM (LG lp G)) :=
 .mk Qy <| sf2 hL (an := ji lp G) (fun _ _ => obs (by kernel_rfl)) fun call a0 a1 H n k => by kernel_rfl
noncomputable def bD (lp : BA) (G : AP) (call : AQ) (k : KV) : An := .n
theorem TM {lp : BA} (hL : Dk lp) (G : AP) : Np G 59 (QM (IZ lp G)) :=
 .mk Nu <| sf2 hL (an := bD lp G) (fun _ _ => obs (by kernel_rfl)) fun call a0 a1 H n k => by kernel_rfl
noncomputable def aH (lp : BA) (G : AP) (call : AQ) (k : KV) : An := .n
theorem Tt {lp : BA} (hL : Dk lp) (G : AP) : Np G 60 (QM (Ii lp G)) :=
 .mk N9 <| sf2 hL (an := aH lp G) (fun _ _ => obs (by kernel_rfl)) fun call a0 a1 H n k => by kernel_rfl
noncomputable def y7 (lp : BA) (G : AP) (call : AQ) (k : KV) : An := .n
theorem kX {lp : BA} (hL : Dk lp) (G : AP) : Np G 61 (Eu (UW lp G)) :=
 .mk ZK <| Xi hL (an := y7 lp G) (fun _ _ => obs (by kernel_rfl)) fun call a0 H n k => by kernel_rfl
noncomputable def mD (lp : BA) (G : AP) (call : AQ) (k : KV) : An := (.s .n (.s .n (.j (fun R=>L6 lp G call k (rg R q0) (rg R q5)) (.b (.l _ (Tq lp G call k) (fun R H n=>(rg R q0, rg R q1, rg R q5, H, n)) fun ih13=>.n)) .n)))
theorem Xp {lp : BA} (hL : Dk lp) (G : AP) : Np G 62 (QM (MX lp G)) :=
 .mk SN <| sf2 hL (an := mD lp G) (fun _ _ => obs (by kernel_rfl)) fun call a0 a1 H n k => by kernel_rfl
noncomputable def zq (lp : BA) (G : AP) (call : AQ) (k : KV) : An := .n
theorem lQ {lp : BA} (hL : Dk lp) (G : AP) : Np G 63 (Eu (TV lp G)) :=
 .mk ZH <| Xi hL (an := zq lp G) (fun _ _ => obs (by kernel_rfl)) fun call a0 H n k => by kernel_rfl
noncomputable def yj (lp : BA) (G : AP) (call : AQ) (k : KV) : An := .n
theorem jg {lp : BA} (hL : Dk lp) (G : AP) : Np G 64 (Eu (TN lp G)) :=
 .mk Yj <| Xi hL (an := yj lp G) (fun _ _ => obs (by kernel_rfl)) fun call a0 H n k => by kernel_rfl
noncomputable def zZ (lp : BA) (G : AP) (call : AQ) (k : KV) : An := (.s .n (.s (.s .n (.b (.j (fun R=>BJ lp G call k (rg R q4)) .n .n))) .n))
theorem lS {lp : BA} (hL : Dk lp) (G : AP) : Np G 65 (Eu (Sz lp G)) :=
 .mk ZC <| Xi hL (an := zZ lp G) (fun _ _ => obs (by kernel_rfl)) fun call a0 H n k => by kernel_rfl
noncomputable def AAU (lp : BA) (G : AP) (call : AQ) (k : KV) : An := .n
theorem jW {lp : BA} (hL : Dk lp) (G : AP) : Np G 66 (Eu (TF lp G)) :=
 .mk ZA <| Xi hL (an := AAU lp G) (fun _ _ => obs (by kernel_rfl)) fun call a0 H n k => by kernel_rfl
noncomputable def wF (lp : BA) (G : AP) (call : AQ) (k : KV) : An := (.s .n (.s .n (.j (fun R=>Us lp G call k (rg R q4)) (.s .n (.b (.l _ (YS lp G call k) (fun R H n=>(rg R q4, rg R q8, rg R q9, rg R q10, H, n)) fun ih4=>.n))) .n)))
theorem fU {lp : BA} (hL : Dk lp) (G : AP) : Np G 67 (Eu (Qs lp G)) :=
 .mk Xa <| Xi hL (an := wF lp G) (fun _ _ => obs (by kernel_rfl)) fun call a0 H n k => by kernel_rfl
noncomputable def dM (lp : BA) (G : AP) (call : AQ) (k : KV) : An := (.s .n (.s .n (.j (fun R=>Fa lp G call k (rg R q2) (rg R q3)) .n .n)))
theorem UO {lp : BA} (hL : Dk lp) (G : AP) : Np G 68 (Eu (Ij lp G)) :=
 .mk Ns <| Xi hL (an := dM lp G) (fun _ _ => obs (by kernel_rfl)) fun call a0 H n k => by kernel_rfl
noncomputable def aT (lp : BA) (G : AP) (call : AQ) (k : KV) : An := .n
theorem Td {lp : BA} (hL : Dk lp) (G : AP) : Np G 69 (Eu (IJ lp G)) :=
 .mk Nw <| Xi hL (an := aT lp G) (fun _ _ => obs (by kernel_rfl)) fun call a0 H n k => by kernel_rfl
noncomputable def Zb (lp : BA) (G : AP) (call : AQ) (k : KV) : An := (.s .n (.s .n (.s .n (.s .n (.j (fun R=>Ht lp G call k (rg R q3) (rg R q22)) (.b (.l _ (PE lp G call k) (fun R H n=>(rg R q0, rg R q3, rg R q22, H, n)) fun ih6=>.n)) .n)))))
theorem RJ {lp : BA} (hL : Dk lp) (G : AP) : Np G 70 (Eu (G8 lp G)) :=
 .mk NQ <| Xi hL (an := Zb lp G) (fun _ _ => obs (by kernel_rfl)) fun call a0 H n k => by kernel_rfl
noncomputable def TA (lp : BA) (G : AP) (call : AQ) (k : KV) : An := .n
theorem Ld {lp : BA} (hL : Dk lp) (G : AP) : Np G 71 (Eu (Dn lp G)) :=
 .mk Gt <| Xi hL (an := TA lp G) (fun _ _ => obs (by kernel_rfl)) fun call a0 H n k => by kernel_rfl
noncomputable def gY (lp : BA) (G : AP) (call : AQ) (k : KV) : An := (.s .n (.j (fun R=>Gq lp G call k (rg R q0) (rg R q2)) .n (.j (fun R=>Gz lp G call k (rg R q0) (rg R q2)) .n (.j (fun R=>Gx lp G call k (rg R q0) (rg R q2)) .n .n))))
theorem Vx {lp : BA} (hL : Dk lp) (G : AP) : Np G 72 (Eu (J4 lp G)) :=
 .mk Pg <| Xi hL (an := gY lp G) (fun _ _ => obs (by kernel_rfl)) fun call a0 H n k => by kernel_rfl
noncomputable def UU (lp : BA) (G : AP) (call : AQ) (k : KV) : An := .n
theorem Le {lp : BA} (hL : Dk lp) (G : AP) : Np G 73 (Eu (Dv lp G)) :=
 .mk He <| Xi hL (an := UU lp G) (fun _ _ => obs (by kernel_rfl)) fun call a0 H n k => by kernel_rfl
noncomputable def Qg (lp : BA) (G : AP) (call : AQ) (k : KV) : An := .n
theorem Qh {lp : BA} (hL : Dk lp) (G : AP) : Np G 74 (Eu (KQ lp G)) :=
 .mk QW <| Xi hL (an := Qg lp G) (fun _ _ => obs (by kernel_rfl)) fun call a0 H n k => by kernel_rfl
noncomputable def Vz (lp : BA) (G : AP) (call : AQ) (k : KV) : An := .n
theorem Vq {lp : BA} (hL : Dk lp) (G : AP) : Np G 75 (Eu (Ol lp G)) :=
 .mk V5 <| Xi hL (an := Vz lp G) (fun _ _ => obs (by kernel_rfl)) fun call a0 H n k => by kernel_rfl
noncomputable def QG (lp : BA) (G : AP) (call : AQ) (k : KV) : An := .n
theorem JM {lp : BA} (hL : Dk lp) (G : AP) : Np G 81 (QM (DT lp G)) :=
 .mk FI <| sf2 hL (an := QG lp G) (fun _ _ => obs (by kernel_rfl)) fun call a0 a1 H n k => by kernel_rfl
noncomputable def QE (lp : BA) (G : AP) (call : AQ) (k : KV) : An := .n
theorem JQ {lp : BA} (hL : Dk lp) (G : AP) : Np G 82 (QM (DN lp G)) :=
 .mk FK <| sf2 hL (an := QE lp G) (fun _ _ => obs (by kernel_rfl)) fun call a0 a1 H n k => by kernel_rfl
noncomputable def ACQ (lp : BA) (G : AP) (call : AQ) (k : KV) : An := .n
theorem uI {lp : BA} (hL : Dk lp) (G : AP) : Np G 83 (ar0 (X9 lp G)) :=
 .mk gq <| sf0 hL (an := ACQ lp G) (fun _ _ => obs (by kernel_rfl)) fun call  H n k => by kernel_rfl
noncomputable def AA8 (lp : BA) (G : AP) (call : AQ) (k : KV) : An := .n
theorem oZ {lp : BA} (hL : Dk lp) (G : AP) : Np G 84 (ar0 (WE lp G)) :=
 .mk bU <| sf0 hL (an := AA8 lp G) (fun _ _ => obs (by kernel_rfl)) fun call  H n k => by kernel_rfl
noncomputable def AEp (lp : BA) (G : AP) (call : AQ) (k : KV) : An := .n
theorem yC {lp : BA} (hL : Dk lp) (G : AP) : Np G 85 (Eu (Zz lp G)) :=
 .mk nH <| Xi hL (an := AEp lp G) (fun _ _ => obs (by kernel_rfl)) fun call a0 H n k => by kernel_rfl
noncomputable def aB (lp : BA) (G : AP) (call : AQ) (k : KV) : An := (.s .n (.j (fun R=>FQ lp G call k (rg R q1)) .n .n))
theorem UQ {lp : BA} (hL : Dk lp) (G : AP) : Np G 86 (Eu (Ib lp G)) :=
 .mk OC <| Xi hL (an := aB lp G) (fun _ _ => obs (by kernel_rfl)) fun call a0 H n k => by kernel_rfl
noncomputable def bM (lp : BA) (G : AP) (call : AQ) (k : KV) : An := (.s .n (.s .n (.j (fun R=>DF lp G call k (rg R q0) (rg R q2) (rg R q3)) .n .n)))
theorem TD {lp : BA} (hL : Dk lp) (G : AP) : Np G 87 (Eu (Ih lp G)) :=
 .mk Ny <| Xi hL (an := bM lp G) (fun _ _ => obs (by kernel_rfl)) fun call a0 H n k => by kernel_rfl
noncomputable def Uw (lp : BA) (G : AP) (call : AQ) (k : KV) : An := .n
theorem Uj {lp : BA} (hL : Dk lp) (G : AP) : Np G 88 (Eu (Nj lp G)) :=
 .mk Uk <| Xi hL (an := Uw lp G) (fun _ _ => obs (by kernel_rfl)) fun call a0 H n k => by kernel_rfl
noncomputable def UZ (lp : BA) (G : AP) (call : AQ) (k : KV) : An := .n
theorem Ut {lp : BA} (hL : Dk lp) (G : AP) : Np G 89 (Eu (Nb lp G)) :=
 .mk Ur <| Xi hL (an := UZ lp G) (fun _ _ => obs (by kernel_rfl)) fun call a0 H n k => by kernel_rfl
noncomputable def Yp (lp : BA) (G : AP) (call : AQ) (k : KV) : An := .n
theorem Qi {lp : BA} (hL : Dk lp) (G : AP) : Np G 95 (Eu (GU lp G)) :=
 .mk Di <| Xi hL (an := Yp lp G) (fun _ _ => obs (by kernel_rfl)) fun call a0 H n k => by kernel_rfl
noncomputable def Z8 (lp : BA) (G : AP) (call : AQ) (k : KV) : An := .n
theorem TI {lp : BA} (hL : Dk lp) (G : AP) : Np G 96 (Eu (IX lp G)) :=
 .mk OQ <| Xi hL (an := Z8 lp G) (fun _ _ => obs (by kernel_rfl)) fun call a0 H n k => by kernel_rfl
noncomputable def Y3 (lp : BA) (G : AP) (call : AQ) (k : KV) : An := (.s .n (.s .n (.s .n (.s .n (.s .n (.s .n (.j (fun R=>Df lp G call k (rg R q2) (rg R q3) (rg R q37)) .n .n)))))))
theorem Qa {lp : BA} (hL : Dk lp) (G : AP) : Np G 97 (Eu (GL lp G)) :=
 .mk L8 <| Xi hL (an := Y3 lp G) (fun _ _ => obs (by kernel_rfl)) fun call a0 H n k => by kernel_rfl
noncomputable def Zi (lp : BA) (G : AP) (call : AQ) (k : KV) : An := (.s .n (.s .n (.s (.s .n (.c (.j (fun R=>Ei lp G call k) .n .n) .n)) (.j (fun R=>Ee lp G call k (rg R q0) (rg R q1)) .n .n))))
theorem Rk {lp : BA} (hL : Dk lp) (G : AP) : Np G 98 (QM (Gp lp G)) :=
 .mk NP <| sf2 hL (an := Zi lp G) (fun _ _ => obs (by kernel_rfl)) fun call a0 a1 H n k => by kernel_rfl
noncomputable def Yh (lp : BA) (G : AP) (call : AQ) (k : KV) : An := (.s .n (.s .n (.j (fun R=>KF lp G call k (rg R q8) (rg R q9)) (.b (.l _ (Ot lp G call k) (fun R H n=>(rg R q0, rg R q1, rg R q2, rg R q3, rg R q8, rg R q9, H, n)) fun ih8=>.n)) .n)))
theorem Qk {lp : BA} (hL : Dk lp) (G : AP) : Np G 103 (ar4 (GV lp G)) :=
 .mk Ls <| sf4 hL (an := Yh lp G) (fun _ _ => obs (by kernel_rfl)) fun call a0 a1 a2 a3 H n k => by kernel_rfl
noncomputable def Yz (lp : BA) (G : AP) (call : AQ) (k : KV) : An := .n
theorem QU {lp : BA} (hL : Dk lp) (G : AP) : Np G 104 (Eu (GY lp G)) :=
 .mk Lm <| Xi hL (an := Yz lp G) (fun _ _ => obs (by kernel_rfl)) fun call a0 H n k => by kernel_rfl
noncomputable def XR (lp : BA) (G : AP) (call : AQ) (k : KV) : An := (.s .n (.s .n (.s .n (.j (fun R=>EI lp G call k (rg R q2) (rg R q4)) .n .n))))
theorem PV {lp : BA} (hL : Dk lp) (G : AP) : Np G 105 (Eu (FC lp G)) :=
 .mk J8 <| Xi hL (an := XR lp G) (fun _ _ => obs (by kernel_rfl)) fun call a0 H n k => by kernel_rfl
noncomputable def Vu (lp : BA) (G : AP) (call : AQ) (k : KV) : An := .n
theorem OJ {lp : BA} (hL : Dk lp) (G : AP) : Np G 106 (Eu (ER lp G)) :=
 .mk JA <| Xi hL (an := Vu lp G) (fun _ _ => obs (by kernel_rfl)) fun call a0 H n k => by kernel_rfl
noncomputable def Zd (lp : BA) (G : AP) (call : AQ) (k : KV) : An := (.s .n (.s .n (.j (fun R=>Kr lp G call k (rg R q6) (rg R q7)) (.b (.l _ (PS lp G call k) (fun R H n=>(rg R q0, rg R q1, rg R q2, rg R q6, rg R q7, H, n)) fun ih8=>.n)) .n)))
theorem RN {lp : BA} (hL : Dk lp) (G : AP) : Np G 107 (ar3 (Gv lp G)) :=
 .mk NC <| sf3 hL (an := Zd lp G) (fun _ _ => obs (by kernel_rfl)) fun call a0 a1 a2 H n k => by kernel_rfl
noncomputable def Uf (lp : BA) (G : AP) (call : AQ) (k : KV) : An := .n
theorem MR {lp : BA} (hL : Dk lp) (G : AP) : Np G 108 (Eu (D9 lp G)) :=
 .mk Hw <| Xi hL (an := Uf lp G) (fun _ _ => obs (by kernel_rfl)) fun call a0 H n k => by kernel_rfl
noncomputable def Zc (lp : BA) (G : AP) (call : AQ) (k : KV) : An := (.s .n (.s .n (.j (fun R=>Gi lp G call k (rg R q0) (rg R q2) (rg R q63)) (.s .n (.b (.l _ (Oe lp G call k) (fun R H n=>(rg R q0, rg R q2, rg R q3, rg R q16, rg R q17, rg R q18, rg R q63, H, n)) fun ih37=>.n))) (.s .n (.j (fun R=>KN lp G call k (rg R q2) (rg R q6) (rg R q63)) (.b (.l _ (Oo lp G call k) (fun R H n=>(rg R q0, rg R q2, rg R q6, rg R q63, H, n)) fun ih17=>(.s .n (.b (.s .n (.s .n (.j (fun R=>Eh lp G call k ih17 (rg R q0) (rg R q2) (rg R q6) (rg R q7) (rg R q8) (rg R q63)) .n .n))))))) .n)))))
theorem Rh {lp : BA} (hL : Dk lp) (G : AP) : Np G 109 (Eu (Gs lp G)) :=
 .mk NM <| Xi hL (an := Zc lp G) (fun _ _ => obs (by kernel_rfl)) fun call a0 H n k => by kernel_rfl
noncomputable def Zg (lp : BA) (G : AP) (call : AQ) (k : KV) : An := (.s .n (.s .n (.b (.l _ (PO lp G call k) (fun R H n=>(rg R q0, rg R q2, rg R q3, H, n)) fun ih5=>.n))))
theorem Rt {lp : BA} (hL : Dk lp) (G : AP) : Np G 110 (Eu (HY lp G)) :=
 .mk Md <| Xi hL (an := Zg lp G) (fun _ _ => obs (by kernel_rfl)) fun call a0 H n k => by kernel_rfl
noncomputable def aO (lp : BA) (G : AP) (call : AQ) (k : KV) : An := (.s .n (.s .n (.s .n (.j (fun R=>Ak lp G call k (rg R q2) (rg R q4)) .n .n))))
theorem TJ {lp : BA} (hL : Dk lp) (G : AP) : Np G 111 (Eu (IY lp G)) :=
 .mk OT <| Xi hL (an := aO lp G) (fun _ _ => obs (by kernel_rfl)) fun call a0 H n k => by kernel_rfl
noncomputable def Ye (lp : BA) (G : AP) (call : AQ) (k : KV) : An := .n
theorem Qb {lp : BA} (hL : Dk lp) (G : AP) : Np G 112 (ar3 (GZ lp G)) :=
 .mk Lr <| sf3 hL (an := Ye lp G) (fun _ _ => obs (by kernel_rfl)) fun call a0 a1 a2 H n k => by kernel_rfl
noncomputable def aJ (lp : BA) (G : AP) (call : AQ) (k : KV) : An := (.s .n (.s .n (.s .n (.j (fun R=>Iu lp G call k (rg R q3)) (.b (.l _ (QA lp G call k) (fun R H n=>(rg R q0, rg R q3, H, n)) fun ih4=>(.s .n (.b (.j (fun R=>FD lp G call k ih4 (rg R q0) (rg R q3)) .n .n))))) .n))))
theorem UL {lp : BA} (hL : Dk lp) (G : AP) : Np G 113 (Eu (IL lp G)) :=
 .mk Nv <| Xi hL (an := aJ lp G) (fun _ _ => obs (by kernel_rfl)) fun call a0 H n k => by kernel_rfl
noncomputable def jJ (lp : BA) (G : AP) (call : AQ) (k : KV) : An := .n
theorem Wi {lp : BA} (hL : Dk lp) (G : AP) : Np G 114 (Eu (LM lp G)) :=
 .mk Qp <| Xi hL (an := jJ lp G) (fun _ _ => obs (by kernel_rfl)) fun call a0 H n k => by kernel_rfl
end Go.PQ
namespace Go.PQ
open Go.Eng
set_option maxRecDepth 100000
noncomputable def FS (lp : BA) (G : AP) : T SF := (.n none (.n none (.n none (.n (some (ar6 (FV lp G))) (.n none (.n none (.n (some (Eu (TV lp G))) .e .e) (.n (some (Eu (GU lp G))) .e .e)) (.n (some (QM (Ic lp G))) .e (.n (some (Eu (IY lp G))) .e .e))) (.n none (.n (some (Eu (LQ lp G))) (.n (some (Eu (Dn lp G))) .e .e) (.n (some (ar4 (GV lp G))) .e .e)) (.n none (.n (some (Eu (Ih lp G))) .e .e) .e))) (.n none (.n (some (Eu (Fz lp G))) (.n none (.n (some (Eu (Qs lp G))) .e .e) .e) (.n (some (ar5 (LY lp G))) (.n (some (ar0 (X9 lp G))) .e .e) .e)) (.n none (.n (some (Eu (I9 lp G))) (.n (some (Eu (Ol lp G))) .e .e) (.n (some (ar3 (Gv lp G))) .e .e)) (.n (some (QM (IZ lp G))) .e .e)))) (.n none (.n (some (ar0 (LJ lp G))) (.n (some (Eu (Ef lp G))) (.n none (.n (some (Eu (Sz lp G))) .e .e) (.n (some (Eu (GL lp G))) .e .e)) (.n (some (Eu (Dq lp G))) (.n (some (QM (DT lp G))) .e .e) (.n (some (Eu (IL lp G))) .e .e))) (.n (some (Eu (Gy lp G))) (.n (some (QM (IE lp G))) (.n (some (Eu (Dv lp G))) .e .e) (.n (some (Eu (FC lp G))) .e .e)) (.n none (.n (some (Eu (Nb lp G))) .e .e) .e))) (.n none (.n (some (QM (MW lp G))) (.n none (.n (some (Eu (IJ lp G))) .e .e) .e) (.n none (.n (some (Eu (Zz lp G))) .e .e) .e)) (.n (some (QM (Dl lp G))) (.n (some (QM (Jm lp G))) .e (.n (some (Eu (Gs lp G))) .e .e)) (.n (some (Eu (UW lp G))) .e .e))))) (.n none (.n none (.n none (.n none (.n none (.n (some (Eu (TN lp G))) .e .e) (.n (some (Eu (IX lp G))) .e .e)) (.n (some (Eu (Es lp G))) .e (.n (some (ar3 (GZ lp G))) .e .e))) (.n (some (Eu (Xu lp G))) (.n (some (QM (Hy lp G))) (.n (some (Eu (J4 lp G))) .e .e) (.n (some (Eu (GY lp G))) .e .e)) (.n none (.n (some (Eu (Nj lp G))) .e .e) .e))) (.n none (.n (some (QM (IK lp G))) (.n none (.n (some (Eu (Ij lp G))) .e .e) .e) (.n none (.n (some (ar0 (WE lp G))) .e .e) .e)) (.n none (.n (some (QM (IU lp G))) .e (.n (some (Eu (D9 lp G))) .e .e)) (.n (some (QM (Ii lp G))) .e .e)))) (.n none (.n (some (Eu (PI lp G))) (.n (some (ar3 (Eo lp G))) (.n none (.n (some (Eu (TF lp G))) .e .e) (.n (some (QM (Gp lp G))) .e .e)) (.n (some (QM (DY lp G))) (.n (some (QM (DN lp G))) .e .e) (.n (some (Eu (LM lp G))) .e .e))) (.n (some (Eu (Jo lp G))) (.n (some (QM (IG lp G))) (.n (some (Eu (KQ lp G))) .e .e) (.n (some (Eu (ER lp G))) .e .e)) (.n (some (QM (LG lp G))) .e .e))) (.n none (.n none (.n (some (Eu (LK lp G))) (.n (some (Eu (G8 lp G))) .e .e) .e) (.n none (.n (some (Eu (Ib lp G))) .e .e) .e)) (.n (some (ar3 (BD lp G))) (.n (some (Eu (GR lp G))) .e (.n (some (Eu (HY lp G))) .e .e)) (.n (some (QM (MX lp G))) .e .e))))))
theorem ALU {lp : BA} (hL : Dk lp) (G : AP) : T.All (fun p s => Np G p.key s) (FS lp G) := (.n0 (.n0 (.n0 (.n1 (QC hL G) (.n0 (.n0 (.n1 (lQ hL G) .e .e) (.n1 (Qi hL G) .e .e)) (.n1 (Tc hL G) .e (.n1 (TJ hL G) .e .e))) (.n0 (.n1 (WZ hL G) (.n1 (Ld hL G) .e .e) (.n1 (Qk hL G) .e .e)) (.n0 (.n1 (TD hL G) .e .e) .e))) (.n0 (.n1 (Ry hL G) (.n0 (.n1 (fU hL G) .e .e) .e) (.n1 (Rz hL G) (.n1 (uI hL G) .e .e) .e)) (.n0 (.n1 (VH hL G) (.n1 (Vq hL G) .e .e) (.n1 (RN hL G) .e .e)) (.n1 (TM hL G) .e .e)))) (.n0 (.n1 (WW hL G) (.n1 (Ou hL G) (.n0 (.n1 (lS hL G) .e .e) (.n1 (Qa hL G) .e .e)) (.n1 (Lc hL G) (.n1 (JM hL G) .e .e) (.n1 (UL hL G) .e .e))) (.n1 (Rx hL G) (.n1 (TK hL G) (.n1 (Le hL G) .e .e) (.n1 (PV hL G) .e .e)) (.n0 (.n1 (Ut hL G) .e .e) .e))) (.n0 (.n1 (YM hL G) (.n0 (.n1 (Td hL G) .e .e) .e) (.n0 (.n1 (yC hL G) .e .e) .e)) (.n1 (LX hL G) (.n1 (Vj hL G) .e (.n1 (Rh hL G) .e .e)) (.n1 (kX hL G) .e .e))))) (.n0 (.n0 (.n0 (.n0 (.n0 (.n1 (jg hL G) .e .e) (.n1 (TI hL G) .e .e)) (.n1 (Oi hL G) .e (.n1 (Qb hL G) .e .e))) (.n1 (rU hL G) (.n1 (UD hL G) (.n1 (Vx hL G) .e .e) (.n1 (QU hL G) .e .e)) (.n0 (.n1 (Uj hL G) .e .e) .e))) (.n0 (.n1 (UN hL G) (.n0 (.n1 (UO hL G) .e .e) .e) (.n0 (.n1 (oZ hL G) .e .e) .e)) (.n0 (.n1 (S9 hL G) .e (.n1 (MR hL G) .e .e)) (.n1 (Tt hL G) .e .e)))) (.n0 (.n1 (dJ hL G) (.n1 (Oj hL G) (.n0 (.n1 (jW hL G) .e .e) (.n1 (Rk hL G) .e .e)) (.n1 (Jb hL G) (.n1 (JQ hL G) .e .e) (.n1 (Wi hL G) .e .e))) (.n1 (Vp hL G) (.n1 (UA hL G) (.n1 (Qh hL G) .e .e) (.n1 (OJ hL G) .e .e)) (.n1 (Wh hL G) .e .e))) (.n0 (.n0 (.n1 (XF hL G) (.n1 (RJ hL G) .e .e) .e) (.n0 (.n1 (UQ hL G) .e .e) .e)) (.n1 (Dj hL G) (.n1 (Qr hL G) .e (.n1 (Rt hL G) .e .e)) (.n1 (Xp hL G) .e .e))))))
theorem AVk {lp : BA} (hL : Dk lp) (G : AP) : ABZ F G (FS lp G) := fun f s h => by
 have := T.All.DU (p := MI f) (ALU hL G) h
 rw [jR] at this
 obtain ⟨h, o⟩ := this
 exact ⟨_, h, o⟩
end Go.PQ
