/- Part of a proof: texts PQSi PQSt of the engine and what is proved with it; nothing is assumed. -/
import Derived.Test.YtcjkfmaoahojeaaDoorPlain
import Derived.Test.YtcjkfmaoahojeaaDoorCode
import Derived.Test.YtcjkfmaoahojeaaDoorEngE
set_option linter.unusedVariables false
set_option linter.unusedSimpArgs false
namespace Go.PQ
open Go.Eng
set_option maxRecDepth 100000
inductive Np (G : AP) (n : Nat) (s : SF) : Prop where
 | mk {af : AF} (h : T.get F n = some af) (o : gZ G af s) : Np G n s
noncomputable def YR (lp : BA) (G : AP) (call : AQ) (k : KV) : An := (.s .n (.s .n (.s .n (.s .n (.s .n (.s .n (.s .n (.s .n (.s .n (.s .n (.s .n (.s .n (.j (fun R=>EM lp G call k (rg R q2) (rg R q3) (rg R q4) (rg R q13) (rg R q14) (rg R q15) (rg R q16) (rg R q17) (rg R q18) (rg R q19)) .n .n)))))))))))))
theorem QC {lp : BA} (hL : Dk lp) (G : AP) : Np G 7 (ar6 (FZ lp G)) :=
 .mk Kq <| sf6 hL (an := YR lp G) (fun _ _ => obs (by kernel_rfl)) fun call a0 a1 a2 a3 a4 a5 H n k => by kernel_rfl
noncomputable def jL (lp : BA) (G : AP) (call : AQ) (k : KV) : An := .n
theorem Wj {lp : BA} (hL : Dk lp) (G : AP) : Np G 9 (ar0 (Kt lp G)) :=
 .mk Qy <| sf0 hL (an := jL lp G) (fun _ _ => obs (by kernel_rfl)) fun call  H n k => by kernel_rfl
noncomputable def rO (lp : BA) (G : AP) (call : AQ) (k : KV) : An := .n
theorem bQ {lp : BA} (hL : Dk lp) (G : AP) : Np G 10 (Eu (PU lp G)) :=
 .mk V9 <| Xi hL (an := rO lp G) (fun _ _ => obs (by kernel_rfl)) fun call a0 H n k => by kernel_rfl
noncomputable def WU (lp : BA) (G : AP) (call : AQ) (k : KV) : An := .n
theorem Oi {lp : BA} (hL : Dk lp) (G : AP) : Np G 17 (Eu (Eo lp G)) :=
 .mk JW <| Xi hL (an := WU lp G) (fun _ _ => obs (by kernel_rfl)) fun call a0 H n k => by kernel_rfl
noncomputable def WS (lp : BA) (G : AP) (call : AQ) (k : KV) : An := (.s .n (.s .n (.j (fun R=>DJ lp G call k (rg R q6) (rg R q7)) .n .n)))
theorem Oe {lp : BA} (hL : Dk lp) (G : AP) : Np G 18 (ar3 (Ee lp G)) :=
 .mk JX <| sf3 hL (an := WS lp G) (fun _ _ => obs (by kernel_rfl)) fun call a0 a1 a2 H n k => by kernel_rfl
noncomputable def mP (lp : BA) (G : AP) (call : AQ) (k : KV) : An := .n
theorem SS {lp : BA} (hL : Dk lp) (G : AP) : Np G 19 (Eu (Fz lp G)) :=
 .mk Kr <| Xi hL (an := mP lp G) (fun _ _ => obs (by kernel_rfl)) fun call a0 H n k => by kernel_rfl
noncomputable def aF (lp : BA) (G : AP) (call : AQ) (k : KV) : An := .n
theorem TV {lp : BA} (hL : Dk lp) (G : AP) : Np G 20 (Qd (IK lp G)) :=
 .mk OT <| sf2 hL (an := aF lp G) (fun _ _ => obs (by kernel_rfl)) fun call a0 a1 H n k => by kernel_rfl
noncomputable def l9 (lp : BA) (G : AP) (call : AQ) (k : KV) : An := .n
theorem Xt {lp : BA} (hL : Dk lp) (G : AP) : Np G 21 (Qd (Mc lp G)) :=
 .mk SQ <| sf2 hL (an := l9 lp G) (fun _ _ => obs (by kernel_rfl)) fun call a0 a1 H n k => by kernel_rfl
noncomputable def ACX (lp : BA) (G : AP) (call : AQ) (k : KV) : An := (.s .n (.s .n (.s .n (.s .n (.b (.l _ (cO lp G call k) (fun R H n=>(rg R q3, rg R q4, rg R q5, H, n)) fun ih12=>.n))))))
theorem sS {lp : BA} (hL : Dk lp) (G : AP) : Np G 24 (Eu (YK lp G)) :=
 .mk iR <| Xi hL (an := ACX lp G) (fun _ _ => obs (by kernel_rfl)) fun call a0 H n k => by kernel_rfl
noncomputable def ZY (lp : BA) (G : AP) (call : AQ) (k : KV) : An := (.s .n (.s .n (.s .n (.s .n (.j (fun R=>Ef lp G call k (rg R q0) (rg R q2) (rg R q3)) .n (.s .n (.j (fun R=>Gj lp G call k (rg R q0) (rg R q2) (rg R q3)) (.b (.l _ (Oh lp G call k) (fun R H n=>(rg R q0, rg R q2, rg R q3, H, n)) fun ih34=>.n)) (.j (fun R=>Ep lp G call k (rg R q2) (rg R q3)) .n .n))))))))
theorem RZ {lp : BA} (hL : Dk lp) (G : AP) : Np G 25 (Eu (G8 lp G)) :=
 .mk NK <| Xi hL (an := ZY lp G) (fun _ _ => obs (by kernel_rfl)) fun call a0 H n k => by kernel_rfl
noncomputable def gX (lp : BA) (G : AP) (call : AQ) (k : KV) : An := .n
theorem Vr {lp : BA} (hL : Dk lp) (G : AP) : Np G 26 (Eu (Jh lp G)) :=
 .mk Po <| Xi hL (an := gX lp G) (fun _ _ => obs (by kernel_rfl)) fun call a0 H n k => by kernel_rfl
noncomputable def UU (lp : BA) (G : AP) (call : AQ) (k : KV) : An := (.s .n (.s (.s .n (.c (.s .n (.s .n (.s .n (.j (fun R=>EH lp G call k (rg R q0) (rg R q5) (rg R q6)) .n .n)))) .n)) .n))
theorem Ld {lp : BA} (hL : Dk lp) (G : AP) : Np G 29 (Qd (Dn lp G)) :=
 .mk G6 <| sf2 hL (an := UU lp G) (fun _ _ => obs (by kernel_rfl)) fun call a0 a1 H n k => by kernel_rfl
noncomputable def Hg (lp : BA) (G : AP) (call : AQ) (k : KV) : An := (.s .n (.s .n (.j (fun R=>CJ lp G call k) (.s .n (.b (.l _ (DZ lp G call k) (fun R H n=>(rg R q1, rg R q2, rg R q15, rg R q16, rg R q17, H, n)) fun ih6=>.n))) .n)))
theorem Dj {lp : BA} (hL : Dk lp) (G : AP) : Np G 30 (ar3 (BD lp G)) :=
 .mk CS <| sf3 hL (an := Hg lp G) (fun _ _ => obs (by kernel_rfl)) fun call a0 a1 a2 H n k => by kernel_rfl
noncomputable def kU (lp : BA) (G : AP) (call : AQ) (k : KV) : An := (.b (.l _ (TB lp G call k) (fun R H n=>(rg R q0, H, n)) fun ih1=>(.s .n (.b (.s .n (.b (.s .n (.c .n (.s .n (.c (.s .n (.j (fun R=>EL lp G call k ih1 (rg R q0) (rg R q3)) .n .n)) .n))))))))))
theorem XC {lp : BA} (hL : Dk lp) (G : AP) : Np G 38 (Eu (Kz lp G)) :=
 .mk Qi <| Xi hL (an := kU lp G) (fun _ _ => obs (by kernel_rfl)) fun call a0 H n k => by kernel_rfl
noncomputable def lU (lp : BA) (G : AP) (call : AQ) (k : KV) : An := (.s .n (.s .n (.s .n (.s .n (.j (fun R=>Cc lp G call k (rg R q0) (rg R q2) (rg R q4)) (.b (.s .n (.c .n (.s .n (.c .n (.s .n (.c .n (.s .n (.b (.l _ (RJ lp G call k) (fun R H n=>(rg R q0, rg R q2, rg R q4, rg R q34, rg R q35, H, n)) fun ih81=>.n)))))))))) .n)))))
theorem XD {lp : BA} (hL : Dk lp) (G : AP) : Np G 39 (Eu (Kw lp G)) :=
 .mk QT <| Xi hL (an := lU lp G) (fun _ _ => obs (by kernel_rfl)) fun call a0 H n k => by kernel_rfl
noncomputable def Zq (lp : BA) (G : AP) (call : AQ) (k : KV) : An := (.s .n (.b (.l _ (P6 lp G call k) (fun R H n=>(rg R q0, rg R q6, rg R q7, rg R q8, H, n)) fun ih2=>(.s .n (.s .n (.j (fun R=>FP lp G call k ih2 (rg R q0) (rg R q6) (rg R q7) (rg R q8)) .n .n))))))
theorem UH {lp : BA} (hL : Dk lp) (G : AP) : Np G 40 (Qd (IJ lp G)) :=
 .mk OC <| sf2 hL (an := Zq lp G) (fun _ _ => obs (by kernel_rfl)) fun call a0 a1 H n k => by kernel_rfl
noncomputable def au (lp : BA) (G : AP) (call : AQ) (k : KV) : An := .n
theorem UN {lp : BA} (hL : Dk lp) (G : AP) : Np G 41 (Qd (Ih lp G)) :=
 .mk OE <| sf2 hL (an := au lp G) (fun _ _ => obs (by kernel_rfl)) fun call a0 a1 H n k => by kernel_rfl
noncomputable def Zu (lp : BA) (G : AP) (call : AQ) (k : KV) : An := .n
theorem TG {lp : BA} (hL : Dk lp) (G : AP) : Np G 42 (Qd (Hz lp G)) :=
 .mk OV <| sf2 hL (an := Zu lp G) (fun _ _ => obs (by kernel_rfl)) fun call a0 a1 H n k => by kernel_rfl
noncomputable def fA (lp : BA) (G : AP) (call : AQ) (k : KV) : An := (.s .n (.s .n (.j (fun R=>GN lp G call k (rg R q2) (rg R q3)) .n .n)))
theorem U9 {lp : BA} (hL : Dk lp) (G : AP) : Np G 43 (Eu (I8 lp G)) :=
 .mk Oy <| Xi hL (an := fA lp G) (fun _ _ => obs (by kernel_rfl)) fun call a0 H n k => by kernel_rfl
noncomputable def aC (lp : BA) (G : AP) (call : AQ) (k : KV) : An := .n
theorem TD {lp : BA} (hL : Dk lp) (G : AP) : Np G 44 (Qd (Ic lp G)) :=
 .mk Ns <| sf2 hL (an := aC lp G) (fun _ _ => obs (by kernel_rfl)) fun call a0 a1 H n k => by kernel_rfl
noncomputable def jF (lp : BA) (G : AP) (call : AQ) (k : KV) : An := (.s .n (.j (fun R=>Nv lp G call k) (.s .n (.b (.l _ (Rh lp G call k) (fun R H n=>(rg R q0, rg R q7, rg R q8, rg R q9, H, n)) fun ih3=>.n))) .n))
theorem Vz {lp : BA} (hL : Dk lp) (G : AP) : Np G 45 (Qd (Jp lp G)) :=
 .mk Pq <| sf2 hL (an := jF lp G) (fun _ _ => obs (by kernel_rfl)) fun call a0 a1 H n k => by kernel_rfl
noncomputable def ZI (lp : BA) (G : AP) (call : AQ) (k : KV) : An := (.s .n (.s .n (.s .n (.s .n (.s .n (.s .n (.s .n (.j (fun R=>F7 lp G call k (rg R q0) (rg R q2) (rg R q4)) (.b (.l _ (Nw lp G call k) (fun R H n=>(rg R q0, rg R q2, rg R q4, H, n)) fun ih31=>(.s .n (.b (.j (fun R=>EP lp G call k ih31 (rg R q0) (rg R q2) (rg R q4)) .n .n))))) .n))))))))
theorem Q7 {lp : BA} (hL : Dk lp) (G : AP) : Np G 46 (Eu (GV lp G)) :=
 .mk Lm <| Xi hL (an := ZI lp G) (fun _ _ => obs (by kernel_rfl)) fun call a0 H n k => by kernel_rfl
noncomputable def Zp (lp : BA) (G : AP) (call : AQ) (k : KV) : An := .n
theorem UW {lp : BA} (hL : Dk lp) (G : AP) : Np G 47 (Qd (IW lp G)) :=
 .mk OM <| sf2 hL (an := Zp lp G) (fun _ _ => obs (by kernel_rfl)) fun call a0 a1 H n k => by kernel_rfl
noncomputable def WR (lp : BA) (G : AP) (call : AQ) (k : KV) : An := .n
theorem Om {lp : BA} (hL : Dk lp) (G : AP) : Np G 48 (Eu (Ei lp G)) :=
 .mk JU <| Xi hL (an := WR lp G) (fun _ _ => obs (by kernel_rfl)) fun call a0 H n k => by kernel_rfl
noncomputable def TM (lp : BA) (G : AP) (call : AQ) (k : KV) : An := .n
theorem Lj {lp : BA} (hL : Dk lp) (G : AP) : Np G 49 (Eu (Dw lp G)) :=
 .mk Gq <| Xi hL (an := TM lp G) (fun _ _ => obs (by kernel_rfl)) fun call a0 H n k => by kernel_rfl
noncomputable def Qx (lp : BA) (G : AP) (call : AQ) (k : KV) : An := (.s .n (.j (fun R=>Dh lp G call k (rg R q0) (rg R q1) (rg R q4)) (.b (.l _ (IE lp G call k) (fun R H n=>(rg R q0, rg R q1, rg R q4, H, n)) fun ih51=>.n)) (.s .n (.j (fun R=>Ce lp G call k (rg R q0) (rg R q4) (rg R q12)) .n (.j (fun R=>Ci lp G call k (rg R q0) (rg R q4) (rg R q12)) .n .n)))))
theorem Jc {lp : BA} (hL : Dk lp) (G : AP) : Np G 50 (Qd (DX lp G)) :=
 .mk FV <| sf2 hL (an := Qx lp G) (fun _ _ => obs (by kernel_rfl)) fun call a0 a1 H n k => by kernel_rfl
noncomputable def SC (lp : BA) (G : AP) (call : AQ) (k : KV) : An := (.s .n (.j (fun R=>FT lp G call k (rg R q0) (rg R q1) (rg R q2) (rg R q3) (rg R q4) (rg R q10) (rg R q11)) .n (.s .n (.s .n (.j (fun R=>Fh lp G call k (rg R q0) (rg R q1) (rg R q2) (rg R q3) (rg R q4) (rg R q10) (rg R q11) (rg R q12) (rg R q13)) .n (.j (fun R=>Fp lp G call k (rg R q0) (rg R q3) (rg R q4) (rg R q10) (rg R q11) (rg R q12) (rg R q13)) (.s .n (.c (.s .n (.s .n (.s .n (.j (fun R=>JQ lp G call k (rg R q0) (rg R q1) (rg R q3) (rg R q4) (rg R q10) (rg R q11) (rg R q12) (rg R q13)) (.b (.l _ (I9 lp G call k) (fun R H n=>(rg R q0, rg R q1, rg R q3, rg R q4, rg R q10, rg R q11, rg R q12, rg R q13, rg R q14, rg R q15, rg R q16, H, n)) fun ih25=>.n)) .n)))) (.s .n (.j (fun R=>JM lp G call k (rg R q0) (rg R q1) (rg R q3) (rg R q4) (rg R q10) (rg R q11) (rg R q12) (rg R q13)) (.b (.l _ (JA lp G call k) (fun R H n=>(rg R q0, rg R q1, rg R q3, rg R q4, rg R q10, rg R q11, rg R q12, rg R q13, rg R q17, H, n)) fun ih39=>.n)) .n)))) (.j (fun R=>Fa lp G call k (rg R q0) (rg R q4) (rg R q10) (rg R q11) (rg R q12) (rg R q13)) .n .n)))))))
theorem SH {lp : BA} (hL : Dk lp) (G : AP) : Np G 51 (ar5 (Ll lp G)) :=
 .mk SV <| sf5 hL (an := SC lp G) (fun _ _ => obs (by kernel_rfl)) fun call a0 a1 a2 a3 a4 H n k => by kernel_rfl
noncomputable def kF (lp : BA) (G : AP) (call : AQ) (k : KV) : An := (.s .n (.b (.l _ (UJ lp G call k) (fun R H n=>(rg R q0, rg R q4, rg R q5, H, n)) fun ih1=>(.s .n (.s .n (.s (.b (.s .n (.j (fun R=>G7 lp G call k ih1 (rg R q0) (rg R q4) (rg R q5)) .n .n))) .n))))))
theorem WY {lp : BA} (hL : Dk lp) (G : AP) : Np G 58 (Qd (LQ lp G)) :=
 .mk QX <| sf2 hL (an := kF lp G) (fun _ _ => obs (by kernel_rfl)) fun call a0 a1 H n k => by kernel_rfl
noncomputable def aA (lp : BA) (G : AP) (call : AQ) (k : KV) : An := .n
theorem Ti {lp : BA} (hL : Dk lp) (G : AP) : Np G 59 (Qd (Ig lp G)) :=
 .mk OB <| sf2 hL (an := aA lp G) (fun _ _ => obs (by kernel_rfl)) fun call a0 a1 H n k => by kernel_rfl
noncomputable def ay (lp : BA) (G : AP) (call : AQ) (k : KV) : An := .n
theorem TL {lp : BA} (hL : Dk lp) (G : AP) : Np G 60 (Qd (II lp G)) :=
 .mk OI <| sf2 hL (an := ay lp G) (fun _ _ => obs (by kernel_rfl)) fun call a0 a1 H n k => by kernel_rfl
noncomputable def zk (lp : BA) (G : AP) (call : AQ) (k : KV) : An := .n
theorem jh {lp : BA} (hL : Dk lp) (G : AP) : Np G 61 (Eu (Tt lp G)) :=
 .mk Yr <| Xi hL (an := zk lp G) (fun _ _ => obs (by kernel_rfl)) fun call a0 H n k => by kernel_rfl
noncomputable def nC (lp : BA) (G : AP) (call : AQ) (k : KV) : An := (.s .n (.s .n (.j (fun R=>Ls lp G call k (rg R q0) (rg R q5)) (.b (.l _ (TP lp G call k) (fun R H n=>(rg R q0, rg R q1, rg R q5, H, n)) fun ih13=>.n)) .n)))
theorem X5 {lp : BA} (hL : Dk lp) (G : AP) : Np G 62 (Qd (MJ lp G)) :=
 .mk SA <| sf2 hL (an := nC lp G) (fun _ _ => obs (by kernel_rfl)) fun call a0 a1 H n k => by kernel_rfl
noncomputable def yZ (lp : BA) (G : AP) (call : AQ) (k : KV) : An := .n
theorem kW {lp : BA} (hL : Dk lp) (G : AP) : Np G 63 (Eu (Tn lp G)) :=
 .mk YU <| Xi hL (an := yZ lp G) (fun _ _ => obs (by kernel_rfl)) fun call a0 H n k => by kernel_rfl
noncomputable def AAG (lp : BA) (G : AP) (call : AQ) (k : KV) : An := .n
theorem jg {lp : BA} (hL : Dk lp) (G : AP) : Np G 64 (Eu (Tf lp G)) :=
 .mk Yd <| Xi hL (an := AAG lp G) (fun _ _ => obs (by kernel_rfl)) fun call a0 H n k => by kernel_rfl
noncomputable def AAa (lp : BA) (G : AP) (call : AQ) (k : KV) : An := (.s .n (.s (.s .n (.b (.j (fun R=>BI lp G call k (rg R q4)) .n .n))) .n))
theorem kH {lp : BA} (hL : Dk lp) (G : AP) : Np G 65 (Eu (UA lp G)) :=
 .mk Yb <| Xi hL (an := AAa lp G) (fun _ _ => obs (by kernel_rfl)) fun call a0 H n k => by kernel_rfl
noncomputable def AAB (lp : BA) (G : AP) (call : AQ) (k : KV) : An := .n
theorem jR {lp : BA} (hL : Dk lp) (G : AP) : Np G 66 (Eu (TN lp G)) :=
 .mk Yz <| Xi hL (an := AAB lp G) (fun _ _ => obs (by kernel_rfl)) fun call a0 H n k => by kernel_rfl
noncomputable def vg (lp : BA) (G : AP) (call : AQ) (k : KV) : An := (.s .n (.s .n (.j (fun R=>Ue lp G call k (rg R q4)) (.s .n (.b (.l _ (X8 lp G call k) (fun R H n=>(rg R q4, rg R q8, rg R q9, rg R q10, H, n)) fun ih4=>.n))) .n)))
theorem fP {lp : BA} (hL : Dk lp) (G : AP) : Np G 67 (Eu (QV lp G)) :=
 .mk Xm <| Xi hL (an := vg lp G) (fun _ _ => obs (by kernel_rfl)) fun call a0 H n k => by kernel_rfl
noncomputable def Z4 (lp : BA) (G : AP) (call : AQ) (k : KV) : An := (.s .n (.s .n (.j (fun R=>Fj lp G call k (rg R q2) (rg R q3)) .n .n)))
theorem TQ {lp : BA} (hL : Dk lp) (G : AP) : Np G 68 (Eu (Ia lp G)) :=
 .mk Nz <| Xi hL (an := Z4 lp G) (fun _ _ => obs (by kernel_rfl)) fun call a0 H n k => by kernel_rfl
noncomputable def bg (lp : BA) (G : AP) (call : AQ) (k : KV) : An := .n
theorem TA {lp : BA} (hL : Dk lp) (G : AP) : Np G 69 (Eu (IG lp G)) :=
 .mk N8 <| Xi hL (an := bg lp G) (fun _ _ => obs (by kernel_rfl)) fun call a0 H n k => by kernel_rfl
noncomputable def Zd (lp : BA) (G : AP) (call : AQ) (k : KV) : An := (.s .n (.s .n (.s .n (.s .n (.j (fun R=>Hq lp G call k (rg R q3) (rg R q22)) (.b (.l _ (O7 lp G call k) (fun R H n=>(rg R q0, rg R q3, rg R q22, H, n)) fun ih6=>.n)) .n)))))
theorem RX {lp : BA} (hL : Dk lp) (G : AP) : Np G 70 (Eu (Gt lp G)) :=
 .mk Md <| Xi hL (an := Zd lp G) (fun _ _ => obs (by kernel_rfl)) fun call a0 H n k => by kernel_rfl
noncomputable def Tq (lp : BA) (G : AP) (call : AQ) (k : KV) : An := .n
theorem Lh {lp : BA} (hL : Dk lp) (G : AP) : Np G 71 (Eu (Dv lp G)) :=
 .mk Gy <| Xi hL (an := Tq lp G) (fun _ _ => obs (by kernel_rfl)) fun call a0 H n k => by kernel_rfl
noncomputable def iJ (lp : BA) (G : AP) (call : AQ) (k : KV) : An := (.s .n (.j (fun R=>Gx lp G call k (rg R q0) (rg R q2)) .n (.j (fun R=>HY lp G call k (rg R q0) (rg R q2)) .n (.j (fun R=>Gu lp G call k (rg R q0) (rg R q2)) .n .n))))
theorem Vm {lp : BA} (hL : Dk lp) (G : AP) : Np G 72 (Eu (Jf lp G)) :=
 .mk Pg <| Xi hL (an := iJ lp G) (fun _ _ => obs (by kernel_rfl)) fun call a0 H n k => by kernel_rfl
noncomputable def UF (lp : BA) (G : AP) (call : AQ) (k : KV) : An := .n
theorem Le {lp : BA} (hL : Dk lp) (G : AP) : Np G 73 (Eu (Dl lp G)) :=
 .mk G9 <| Xi hL (an := UF lp G) (fun _ _ => obs (by kernel_rfl)) fun call a0 H n k => by kernel_rfl
noncomputable def Ql (lp : BA) (G : AP) (call : AQ) (k : KV) : An := .n
theorem Q5 {lp : BA} (hL : Dk lp) (G : AP) : Np G 74 (Eu (KP lp G)) :=
 .mk Qc <| Xi hL (an := Ql lp G) (fun _ _ => obs (by kernel_rfl)) fun call a0 H n k => by kernel_rfl
noncomputable def Vj (lp : BA) (G : AP) (call : AQ) (k : KV) : An := .n
theorem Vp {lp : BA} (hL : Dk lp) (G : AP) : Np G 75 (Eu (Og lp G)) :=
 .mk WE <| Xi hL (an := Vj lp G) (fun _ _ => obs (by kernel_rfl)) fun call a0 H n k => by kernel_rfl
noncomputable def QK (lp : BA) (G : AP) (call : AQ) (k : KV) : An := .n
theorem JO {lp : BA} (hL : Dk lp) (G : AP) : Np G 81 (Qd (DT lp G)) :=
 .mk FI <| sf2 hL (an := QK lp G) (fun _ _ => obs (by kernel_rfl)) fun call a0 a1 H n k => by kernel_rfl
noncomputable def QI (lp : BA) (G : AP) (call : AQ) (k : KV) : An := .n
theorem JL {lp : BA} (hL : Dk lp) (G : AP) : Np G 82 (Qd (DR lp G)) :=
 .mk FK <| sf2 hL (an := QI lp G) (fun _ _ => obs (by kernel_rfl)) fun call a0 a1 H n k => by kernel_rfl
noncomputable def ACz (lp : BA) (G : AP) (call : AQ) (k : KV) : An := .n
theorem rY {lp : BA} (hL : Dk lp) (G : AP) : Np G 83 (ar0 (YA lp G)) :=
 .mk jA <| sf0 hL (an := ACz lp G) (fun _ _ => obs (by kernel_rfl)) fun call  H n k => by kernel_rfl
noncomputable def AAv (lp : BA) (G : AP) (call : AQ) (k : KV) : An := .n
theorem qA {lp : BA} (hL : Dk lp) (G : AP) : Np G 84 (ar0 (Vk lp G)) :=
 .mk bC <| sf0 hL (an := AAv lp G) (fun _ _ => obs (by kernel_rfl)) fun call  H n k => by kernel_rfl
noncomputable def AFT (lp : BA) (G : AP) (call : AQ) (k : KV) : An := .n
theorem wz {lp : BA} (hL : Dk lp) (G : AP) : Np G 85 (Eu (aQ lp G)) :=
 .mk mM <| Xi hL (an := AFT lp G) (fun _ _ => obs (by kernel_rfl)) fun call a0 H n k => by kernel_rfl
noncomputable def dB (lp : BA) (G : AP) (call : AQ) (k : KV) : An := (.s .n (.j (fun R=>FQ lp G call k (rg R q1)) .n .n))
theorem Tc {lp : BA} (hL : Dk lp) (G : AP) : Np G 86 (Eu (IV lp G)) :=
 .mk N7 <| Xi hL (an := dB lp G) (fun _ _ => obs (by kernel_rfl)) fun call a0 H n k => by kernel_rfl
noncomputable def bV (lp : BA) (G : AP) (call : AQ) (k : KV) : An := (.s .n (.s .n (.j (fun R=>DF lp G call k (rg R q0) (rg R q2) (rg R q3)) .n .n)))
theorem UK {lp : BA} (hL : Dk lp) (G : AP) : Np G 87 (Eu (IQ lp G)) :=
 .mk OG <| Xi hL (an := bV lp G) (fun _ _ => obs (by kernel_rfl)) fun call a0 H n k => by kernel_rfl
noncomputable def Us (lp : BA) (G : AP) (call : AQ) (k : KV) : An := .n
theorem UZ {lp : BA} (hL : Dk lp) (G : AP) : Np G 88 (Eu (NW lp G)) :=
 .mk Uk <| Xi hL (an := Us lp G) (fun _ _ => obs (by kernel_rfl)) fun call a0 H n k => by kernel_rfl
noncomputable def Ui (lp : BA) (G : AP) (call : AQ) (k : KV) : An := .n
theorem Uu {lp : BA} (hL : Dk lp) (G : AP) : Np G 89 (Eu (NZ lp G)) :=
 .mk Ux <| Xi hL (an := Ui lp G) (fun _ _ => obs (by kernel_rfl)) fun call a0 H n k => by kernel_rfl
noncomputable def Yy (lp : BA) (G : AP) (call : AQ) (k : KV) : An := .n
theorem Qv {lp : BA} (hL : Dk lp) (G : AP) : Np G 95 (Eu (GK lp G)) :=
 .mk Di <| Xi hL (an := Yy lp G) (fun _ _ => obs (by kernel_rfl)) fun call a0 H n k => by kernel_rfl
noncomputable def bn (lp : BA) (G : AP) (call : AQ) (k : KV) : An := .n
theorem UC {lp : BA} (hL : Dk lp) (G : AP) : Np G 96 (Eu (IY lp G)) :=
 .mk OH <| Xi hL (an := bn lp G) (fun _ _ => obs (by kernel_rfl)) fun call a0 H n k => by kernel_rfl
noncomputable def ZH (lp : BA) (G : AP) (call : AQ) (k : KV) : An := (.s .n (.s .n (.s .n (.s .n (.s .n (.s .n (.j (fun R=>Df lp G call k (rg R q2) (rg R q3) (rg R q37)) .n .n)))))))
theorem Qu {lp : BA} (hL : Dk lp) (G : AP) : Np G 97 (Eu (GX lp G)) :=
 .mk MB <| Xi hL (an := ZH lp G) (fun _ _ => obs (by kernel_rfl)) fun call a0 H n k => by kernel_rfl
noncomputable def Za (lp : BA) (G : AP) (call : AQ) (k : KV) : An := (.s .n (.s .n (.s (.s .n (.c (.j (fun R=>Ej lp G call k) .n .n) .n)) (.j (fun R=>Eh lp G call k (rg R q0) (rg R q1)) .n .n))))
theorem RQ {lp : BA} (hL : Dk lp) (G : AP) : Np G 98 (Qd (Gs lp G)) :=
 .mk NC <| sf2 hL (an := Za lp G) (fun _ _ => obs (by kernel_rfl)) fun call a0 a1 H n k => by kernel_rfl
noncomputable def Yj (lp : BA) (G : AP) (call : AQ) (k : KV) : An := (.s .n (.s .n (.j (fun R=>J9 lp G call k (rg R q8) (rg R q9)) (.b (.l _ (Oj lp G call k) (fun R H n=>(rg R q0, rg R q1, rg R q2, rg R q3, rg R q8, rg R q9, H, n)) fun ih8=>.n)) .n)))
theorem Qe {lp : BA} (hL : Dk lp) (G : AP) : Np G 103 (ar4 (GL lp G)) :=
 .mk Lp <| sf4 hL (an := Yj lp G) (fun _ _ => obs (by kernel_rfl)) fun call a0 a1 a2 a3 H n k => by kernel_rfl
noncomputable def ZM (lp : BA) (G : AP) (call : AQ) (k : KV) : An := .n
theorem Qq {lp : BA} (hL : Dk lp) (G : AP) : Np G 104 (Eu (GZ lp G)) :=
 .mk L8 <| Xi hL (an := ZM lp G) (fun _ _ => obs (by kernel_rfl)) fun call a0 H n k => by kernel_rfl
noncomputable def XY (lp : BA) (G : AP) (call : AQ) (k : KV) : An := (.s .n (.s .n (.s .n (.j (fun R=>EI lp G call k (rg R q2) (rg R q4)) .n .n))))
theorem PL {lp : BA} (hL : Dk lp) (G : AP) : Np G 105 (Eu (FC lp G)) :=
 .mk KC <| Xi hL (an := XY lp G) (fun _ _ => obs (by kernel_rfl)) fun call a0 H n k => by kernel_rfl
noncomputable def V5 (lp : BA) (G : AP) (call : AQ) (k : KV) : An := .n
theorem OA {lp : BA} (hL : Dk lp) (G : AP) : Np G 106 (Eu (ES lp G)) :=
 .mk I7 <| Xi hL (an := V5 lp G) (fun _ _ => obs (by kernel_rfl)) fun call a0 H n k => by kernel_rfl
noncomputable def Zg (lp : BA) (G : AP) (call : AQ) (k : KV) : An := (.s .n (.s .n (.j (fun R=>LD lp G call k (rg R q6) (rg R q7)) (.b (.l _ (PS lp G call k) (fun R H n=>(rg R q0, rg R q1, rg R q2, rg R q6, rg R q7, H, n)) fun ih8=>.n)) .n)))
theorem Rt {lp : BA} (hL : Dk lp) (G : AP) : Np G 107 (ar3 (Gw lp G)) :=
 .mk NP <| sf3 hL (an := Zg lp G) (fun _ _ => obs (by kernel_rfl)) fun call a0 a1 a2 H n k => by kernel_rfl
noncomputable def Ug (lp : BA) (G : AP) (call : AQ) (k : KV) : An := .n
theorem ML {lp : BA} (hL : Dk lp) (G : AP) : Np G 108 (Eu (D9 lp G)) :=
 .mk Hw <| Xi hL (an := Ug lp G) (fun _ _ => obs (by kernel_rfl)) fun call a0 H n k => by kernel_rfl
noncomputable def Zc (lp : BA) (G : AP) (call : AQ) (k : KV) : An := (.s .n (.s .n (.j (fun R=>Gm lp G call k (rg R q0) (rg R q2) (rg R q63)) (.s .n (.b (.l _ (Oq lp G call k) (fun R H n=>(rg R q0, rg R q2, rg R q3, rg R q16, rg R q17, rg R q18, rg R q63, H, n)) fun ih37=>.n))) (.s .n (.j (fun R=>KD lp G call k (rg R q2) (rg R q6) (rg R q63)) (.b (.l _ (Oo lp G call k) (fun R H n=>(rg R q0, rg R q2, rg R q6, rg R q63, H, n)) fun ih17=>(.s .n (.b (.s .n (.s .n (.j (fun R=>Em lp G call k ih17 (rg R q0) (rg R q2) (rg R q6) (rg R q7) (rg R q8) (rg R q63)) .n .n))))))) .n)))))
theorem Rl {lp : BA} (hL : Dk lp) (G : AP) : Np G 109 (Eu (Gp lp G)) :=
 .mk NQ <| Xi hL (an := Zc lp G) (fun _ _ => obs (by kernel_rfl)) fun call a0 H n k => by kernel_rfl
noncomputable def Zi (lp : BA) (G : AP) (call : AQ) (k : KV) : An := (.s .n (.s .n (.b (.l _ (PE lp G call k) (fun R H n=>(rg R q0, rg R q2, rg R q3, H, n)) fun ih5=>.n))))
theorem RN {lp : BA} (hL : Dk lp) (G : AP) : Np G 110 (Eu (Hf lp G)) :=
 .mk ND <| Xi hL (an := Zi lp G) (fun _ _ => obs (by kernel_rfl)) fun call a0 H n k => by kernel_rfl
noncomputable def dH (lp : BA) (G : AP) (call : AQ) (k : KV) : An := (.s .n (.s .n (.s .n (.j (fun R=>Ak lp G call k (rg R q2) (rg R q4)) .n .n))))
theorem TW {lp : BA} (hL : Dk lp) (G : AP) : Np G 111 (Eu (Ij lp G)) :=
 .mk Ny <| Xi hL (an := dH lp G) (fun _ _ => obs (by kernel_rfl)) fun call a0 H n k => by kernel_rfl
noncomputable def ZG (lp : BA) (G : AP) (call : AQ) (k : KV) : An := .n
theorem QU {lp : BA} (hL : Dk lp) (G : AP) : Np G 112 (ar3 (GU lp G)) :=
 .mk MC <| sf3 hL (an := ZG lp G) (fun _ _ => obs (by kernel_rfl)) fun call a0 a1 a2 H n k => by kernel_rfl
noncomputable def aY (lp : BA) (G : AP) (call : AQ) (k : KV) : An := (.s .n (.s .n (.s .n (.j (fun R=>Ik lp G call k (rg R q3)) (.b (.l _ (P9 lp G call k) (fun R H n=>(rg R q0, rg R q3, H, n)) fun ih4=>(.s .n (.b (.j (fun R=>FD lp G call k ih4 (rg R q0) (rg R q3)) .n .n))))) .n))))
theorem UE {lp : BA} (hL : Dk lp) (G : AP) : Np G 113 (Eu (Hy lp G)) :=
 .mk OJ <| Xi hL (an := aY lp G) (fun _ _ => obs (by kernel_rfl)) fun call a0 H n k => by kernel_rfl
noncomputable def kQ (lp : BA) (G : AP) (call : AQ) (k : KV) : An := .n
theorem Wy {lp : BA} (hL : Dk lp) (G : AP) : Np G 114 (Eu (LC lp G)) :=
 .mk Qh <| Xi hL (an := kQ lp G) (fun _ _ => obs (by kernel_rfl)) fun call a0 H n k => by kernel_rfl
end Go.PQ
namespace Go.PQ
open Go.Eng
set_option maxRecDepth 100000
noncomputable def FS (lp : BA) (G : AP) : T SF := (.n none (.n none (.n none (.n (some (ar6 (FZ lp G))) (.n none (.n none (.n (some (Eu (Tn lp G))) .e .e) (.n (some (Eu (GK lp G))) .e .e)) (.n (some (Qd (IW lp G))) .e (.n (some (Eu (Ij lp G))) .e .e))) (.n none (.n (some (Eu (Kw lp G))) (.n (some (Eu (Dv lp G))) .e .e) (.n (some (ar4 (GL lp G))) .e .e)) (.n none (.n (some (Eu (IQ lp G))) .e .e) .e))) (.n none (.n (some (Eu (Fz lp G))) (.n none (.n (some (Eu (QV lp G))) .e .e) .e) (.n (some (ar5 (Ll lp G))) (.n (some (ar0 (YA lp G))) .e .e) .e)) (.n none (.n (some (Eu (I8 lp G))) (.n (some (Eu (Og lp G))) .e .e) (.n (some (ar3 (Gw lp G))) .e .e)) (.n (some (Qd (Ig lp G))) .e .e)))) (.n none (.n (some (ar0 (Kt lp G))) (.n (some (Eu (Eo lp G))) (.n none (.n (some (Eu (UA lp G))) .e .e) (.n (some (Eu (GX lp G))) .e .e)) (.n (some (Eu (Dw lp G))) (.n (some (Qd (DT lp G))) .e .e) (.n (some (Eu (Hy lp G))) .e .e))) (.n (some (Eu (G8 lp G))) (.n (some (Qd (Ih lp G))) (.n (some (Eu (Dl lp G))) .e .e) (.n (some (Eu (FC lp G))) .e .e)) (.n none (.n (some (Eu (NZ lp G))) .e .e) .e))) (.n none (.n (some (Qd (Mc lp G))) (.n none (.n (some (Eu (IG lp G))) .e .e) .e) (.n none (.n (some (Eu (aQ lp G))) .e .e) .e)) (.n (some (Qd (Dn lp G))) (.n (some (Qd (Jp lp G))) .e (.n (some (Eu (Gp lp G))) .e .e)) (.n (some (Eu (Tt lp G))) .e .e))))) (.n none (.n none (.n none (.n none (.n none (.n (some (Eu (Tf lp G))) .e .e) (.n (some (Eu (IY lp G))) .e .e)) (.n (some (Eu (Ei lp G))) .e (.n (some (ar3 (GU lp G))) .e .e))) (.n (some (Eu (YK lp G))) (.n (some (Qd (IJ lp G))) (.n (some (Eu (Jf lp G))) .e .e) (.n (some (Eu (GZ lp G))) .e .e)) (.n none (.n (some (Eu (NW lp G))) .e .e) .e))) (.n none (.n (some (Qd (IK lp G))) (.n none (.n (some (Eu (Ia lp G))) .e .e) .e) (.n none (.n (some (ar0 (Vk lp G))) .e .e) .e)) (.n none (.n (some (Qd (Ic lp G))) .e (.n (some (Eu (D9 lp G))) .e .e)) (.n (some (Qd (II lp G))) .e .e)))) (.n none (.n (some (Eu (PU lp G))) (.n (some (ar3 (Ee lp G))) (.n none (.n (some (Eu (TN lp G))) .e .e) (.n (some (Qd (Gs lp G))) .e .e)) (.n (some (Qd (DX lp G))) (.n (some (Qd (DR lp G))) .e .e) (.n (some (Eu (LC lp G))) .e .e))) (.n (some (Eu (Jh lp G))) (.n (some (Qd (Hz lp G))) (.n (some (Eu (KP lp G))) .e .e) (.n (some (Eu (ES lp G))) .e .e)) (.n (some (Qd (LQ lp G))) .e .e))) (.n none (.n none (.n (some (Eu (Kz lp G))) (.n (some (Eu (Gt lp G))) .e .e) .e) (.n none (.n (some (Eu (IV lp G))) .e .e) .e)) (.n (some (ar3 (BD lp G))) (.n (some (Eu (GV lp G))) .e (.n (some (Eu (Hf lp G))) .e .e)) (.n (some (Qd (MJ lp G))) .e .e))))))
theorem ALh {lp : BA} (hL : Dk lp) (G : AP) : T.All (fun p s => Np G p.key s) (FS lp G) := (.n0 (.n0 (.n0 (.n1 (QC hL G) (.n0 (.n0 (.n1 (kW hL G) .e .e) (.n1 (Qv hL G) .e .e)) (.n1 (UW hL G) .e (.n1 (TW hL G) .e .e))) (.n0 (.n1 (XD hL G) (.n1 (Lh hL G) .e .e) (.n1 (Qe hL G) .e .e)) (.n0 (.n1 (UK hL G) .e .e) .e))) (.n0 (.n1 (SS hL G) (.n0 (.n1 (fP hL G) .e .e) .e) (.n1 (SH hL G) (.n1 (rY hL G) .e .e) .e)) (.n0 (.n1 (U9 hL G) (.n1 (Vp hL G) .e .e) (.n1 (Rt hL G) .e .e)) (.n1 (Ti hL G) .e .e)))) (.n0 (.n1 (Wj hL G) (.n1 (Oi hL G) (.n0 (.n1 (kH hL G) .e .e) (.n1 (Qu hL G) .e .e)) (.n1 (Lj hL G) (.n1 (JO hL G) .e .e) (.n1 (UE hL G) .e .e))) (.n1 (RZ hL G) (.n1 (UN hL G) (.n1 (Le hL G) .e .e) (.n1 (PL hL G) .e .e)) (.n0 (.n1 (Uu hL G) .e .e) .e))) (.n0 (.n1 (Xt hL G) (.n0 (.n1 (TA hL G) .e .e) .e) (.n0 (.n1 (wz hL G) .e .e) .e)) (.n1 (Ld hL G) (.n1 (Vz hL G) .e (.n1 (Rl hL G) .e .e)) (.n1 (jh hL G) .e .e))))) (.n0 (.n0 (.n0 (.n0 (.n0 (.n1 (jg hL G) .e .e) (.n1 (UC hL G) .e .e)) (.n1 (Om hL G) .e (.n1 (QU hL G) .e .e))) (.n1 (sS hL G) (.n1 (UH hL G) (.n1 (Vm hL G) .e .e) (.n1 (Qq hL G) .e .e)) (.n0 (.n1 (UZ hL G) .e .e) .e))) (.n0 (.n1 (TV hL G) (.n0 (.n1 (TQ hL G) .e .e) .e) (.n0 (.n1 (qA hL G) .e .e) .e)) (.n0 (.n1 (TD hL G) .e (.n1 (ML hL G) .e .e)) (.n1 (TL hL G) .e .e)))) (.n0 (.n1 (bQ hL G) (.n1 (Oe hL G) (.n0 (.n1 (jR hL G) .e .e) (.n1 (RQ hL G) .e .e)) (.n1 (Jc hL G) (.n1 (JL hL G) .e .e) (.n1 (Wy hL G) .e .e))) (.n1 (Vr hL G) (.n1 (TG hL G) (.n1 (Q5 hL G) .e .e) (.n1 (OA hL G) .e .e)) (.n1 (WY hL G) .e .e))) (.n0 (.n0 (.n1 (XC hL G) (.n1 (RX hL G) .e .e) .e) (.n0 (.n1 (Tc hL G) .e .e) .e)) (.n1 (Dj hL G) (.n1 (Q7 hL G) .e (.n1 (RN hL G) .e .e)) (.n1 (X5 hL G) .e .e))))))
theorem ATw {lp : BA} (hL : Dk lp) (G : AP) : ABq F G (FS lp G) := fun f s h => by
 have := T.All.DU (p := MI f) (ALh hL G) h
 rw [kX] at this
 obtain ⟨h, o⟩ := this
 exact ⟨_, h, o⟩
end Go.PQ
