/- Part of a proof: texts PQSi PQSt of the engine and what is proved with it; nothing is assumed. -/
import Derived.Test.YtcjkfmaoahojeaaDoorPlain
import Derived.Test.YtcjkfmaoahojeaaDoorCode
import Derived.Test.YtcjkfmaoahojeaaDoorEngE
set_option linter.unusedVariables false
set_option linter.unusedSimpArgs false
namespace Go.PQ
open Go.Eng
set_option maxRecDepth 100000
inductive NU (G : AP) (n : Nat) (s : SF) : Prop where
 | mk {af : AF} (h : T.get F n = some af) (o : fV G af s) : NU G n s
noncomputable def X4 (lp : Aw) (G : AP) (call : AQ) (k : KV) : An := .n
theorem PX {lp : Aw} (hL : DU lp) (G : AP) : NU G 6 (UA (FI lp G)) :=
 .mk KP <| sf2 hL (an := X4 lp G) (fun _ _ => obs (by kernel_rfl)) fun call a0 a1 H n k => by kernel_rfl
noncomputable def jo (lp : Aw) (G : AP) (call : AQ) (k : KV) : An := .n
theorem WS {lp : Aw} (hL : DU lp) (G : AP) : NU G 9 (ar0 (KC lp G)) :=
 .mk QD <| sf0 hL (an := jo lp G) (fun _ _ => obs (by kernel_rfl)) fun call  H n k => by kernel_rfl
noncomputable def tu (lp : Aw) (G : AP) (call : AQ) (k : KV) : An := .n
theorem bC {lp : Aw} (hL : DU lp) (G : AP) : NU G 10 (Dz (Ou lp G)) :=
 .mk Vu <| VE hL (an := tu lp G) (fun _ _ => obs (by kernel_rfl)) fun call a0 H n k => by kernel_rfl
noncomputable def qC (lp : Aw) (G : AP) (call : AQ) (k : KV) : An := .n
theorem ZH {lp : Aw} (hL : DU lp) (G : AP) : NU G 13 (Dz (Nl lp G)) :=
 .mk UW <| VE hL (an := qC lp G) (fun _ _ => obs (by kernel_rfl)) fun call a0 H n k => by kernel_rfl
noncomputable def lV (lp : Aw) (G : AP) (call : AQ) (k : KV) : An := (.s .n (.s .n (.j (fun R=>Il lp G call k (rg R q1) (rg R q2) (rg R q3)) .n .n)))
theorem Xw {lp : Aw} (hL : DU lp) (G : AP) : NU G 14 (Dz (Lr lp G)) :=
 .mk RZ <| VE hL (an := lV lp G) (fun _ _ => obs (by kernel_rfl)) fun call a0 H n k => by kernel_rfl
noncomputable def nY (lp : Aw) (G : AP) (call : AQ) (k : KV) : An := .n
theorem Xh {lp : Aw} (hL : DU lp) (G : AP) : NU G 15 (Dz (MG lp G)) :=
 .mk Ri <| VE hL (an := nY lp G) (fun _ _ => obs (by kernel_rfl)) fun call a0 H n k => by kernel_rfl
noncomputable def lS (lp : Aw) (G : AP) (call : AQ) (k : KV) : An := .n
theorem X5 {lp : Aw} (hL : DU lp) (G : AP) : NU G 16 (Dz (Le lp G)) :=
 .mk Rj <| VE hL (an := lS lp G) (fun _ _ => obs (by kernel_rfl)) fun call a0 H n k => by kernel_rfl
noncomputable def lg (lp : Aw) (G : AP) (call : AQ) (k : KV) : An := .n
theorem RQ {lp : Aw} (hL : DU lp) (G : AP) : NU G 19 (Dz (FQ lp G)) :=
 .mk KH <| VE hL (an := lg lp G) (fun _ _ => obs (by kernel_rfl)) fun call a0 H n k => by kernel_rfl
noncomputable def ADE (lp : Aw) (G : AP) (call : AQ) (k : KV) : An := (.s .n (.s .n (.s .n (.s .n (.b (.l _ (Zp lp G call k) (fun R H n=>(rg R q3, rg R q4, rg R q5, H, n)) fun ih12=>.n))))))
theorem uI {lp : Aw} (hL : DU lp) (G : AP) : NU G 24 (Dz (YD lp G)) :=
 .mk fP <| VE hL (an := ADE lp G) (fun _ _ => obs (by kernel_rfl)) fun call a0 H n k => by kernel_rfl
noncomputable def ZP (lp : Aw) (G : AP) (call : AQ) (k : KV) : An := (.s .n (.s .n (.s .n (.s .n (.j (fun R=>ET lp G call k (rg R q0) (rg R q2) (rg R q3)) .n (.s .n (.j (fun R=>GN lp G call k (rg R q0) (rg R q2) (rg R q3)) (.b (.l _ (OV lp G call k) (fun R H n=>(rg R q0, rg R q2, rg R q3, H, n)) fun ih34=>.n)) (.j (fun R=>EW lp G call k (rg R q2) (rg R q3)) .n .n))))))))
theorem RG {lp : Aw} (hL : DU lp) (G : AP) : NU G 25 (Dz (Gg lp G)) :=
 .mk MW <| VE hL (an := ZP lp G) (fun _ _ => obs (by kernel_rfl)) fun call a0 H n k => by kernel_rfl
noncomputable def fU (lp : Aw) (G : AP) (call : AQ) (k : KV) : An := .n
theorem Vs {lp : Aw} (hL : DU lp) (G : AP) : NU G 26 (Dz (Jk lp G)) :=
 .mk PK <| VE hL (an := fU lp G) (fun _ _ => obs (by kernel_rfl)) fun call a0 H n k => by kernel_rfl
noncomputable def Wl (lp : Aw) (G : AP) (call : AQ) (k : KV) : An := .n
theorem O3 {lp : Aw} (hL : DU lp) (G : AP) : NU G 27 (Dz (Ei lp G)) :=
 .mk Jv <| VE hL (an := Wl lp G) (fun _ _ => obs (by kernel_rfl)) fun call a0 H n k => by kernel_rfl
noncomputable def fJ (lp : Aw) (G : AP) (call : AQ) (k : KV) : An := .n
theorem VJ {lp : Aw} (hL : DU lp) (G : AP) : NU G 28 (Dz (Jh lp G)) :=
 .mk PO <| VE hL (an := fJ lp G) (fun _ _ => obs (by kernel_rfl)) fun call a0 H n k => by kernel_rfl
noncomputable def TI (lp : Aw) (G : AP) (call : AQ) (k : KV) : An := (.s .n (.s (.s .n (.c (.s .n (.s .n (.s .n (.j (fun R=>D5 lp G call k (rg R q0) (rg R q5) (rg R q6)) .n .n)))) .n)) .n))
theorem Ky {lp : Aw} (hL : DU lp) (G : AP) : NU G 29 (UA (DZ lp G)) :=
 .mk Gt <| sf2 hL (an := TI lp G) (fun _ _ => obs (by kernel_rfl)) fun call a0 a1 H n k => by kernel_rfl
noncomputable def jR (lp : Aw) (G : AP) (call : AQ) (k : KV) : An := (.b (.l _ (TQ lp G call k) (fun R H n=>(rg R q0, H, n)) fun ih1=>(.s .n (.b (.s .n (.b (.s .n (.c .n (.s .n (.c (.s .n (.j (fun R=>D6 lp G call k ih1 (rg R q0) (rg R q3)) .n .n)) .n))))))))))
theorem WZ {lp : Aw} (hL : DU lp) (G : AP) : NU G 38 (Dz (KT lp G)) :=
 .mk QK <| VE hL (an := jR lp G) (fun _ _ => obs (by kernel_rfl)) fun call a0 H n k => by kernel_rfl
noncomputable def lF (lp : Aw) (G : AP) (call : AQ) (k : KV) : An := (.s .n (.s .n (.s .n (.s .n (.j (fun R=>CW lp G call k (rg R q0) (rg R q2) (rg R q4)) (.b (.s .n (.c .n (.s .n (.c .n (.s .n (.c .n (.s .n (.b (.l _ (Qp lp G call k) (fun R H n=>(rg R q0, rg R q2, rg R q4, rg R q34, rg R q35, H, n)) fun ih81=>.n)))))))))) .n)))))
theorem WU {lp : Aw} (hL : DU lp) (G : AP) : NU G 39 (Dz (KN lp G)) :=
 .mk QF <| VE hL (an := lF lp G) (fun _ _ => obs (by kernel_rfl)) fun call a0 H n k => by kernel_rfl
noncomputable def aF (lp : Aw) (G : AP) (call : AQ) (k : KV) : An := (.s .n (.b (.l _ (Pj lp G call k) (fun R H n=>(rg R q0, rg R q6, rg R q7, rg R q8, H, n)) fun ih2=>(.s .n (.s .n (.j (fun R=>FH lp G call k ih2 (rg R q0) (rg R q6) (rg R q7) (rg R q8)) .n .n))))))
theorem Sr {lp : Aw} (hL : DU lp) (G : AP) : NU G 40 (UA (Hl lp G)) :=
 .mk Nk <| sf2 hL (an := aF lp G) (fun _ _ => obs (by kernel_rfl)) fun call a0 a1 H n k => by kernel_rfl
noncomputable def Zm (lp : Aw) (G : AP) (call : AQ) (k : KV) : An := .n
theorem SI {lp : Aw} (hL : DU lp) (G : AP) : NU G 41 (UA (Hy lp G)) :=
 .mk OA <| sf2 hL (an := Zm lp G) (fun _ _ => obs (by kernel_rfl)) fun call a0 a1 H n k => by kernel_rfl
noncomputable def Zw (lp : Aw) (G : AP) (call : AQ) (k : KV) : An := .n
theorem TL {lp : Aw} (hL : DU lp) (G : AP) : NU G 42 (UA (IE lp G)) :=
 .mk Nb <| sf2 hL (an := Zw lp G) (fun _ _ => obs (by kernel_rfl)) fun call a0 a1 H n k => by kernel_rfl
noncomputable def eU (lp : Aw) (G : AP) (call : AQ) (k : KV) : An := (.s .n (.s .n (.j (fun R=>Fv lp G call k (rg R q2) (rg R q3)) .n .n)))
theorem Uh {lp : Aw} (hL : DU lp) (G : AP) : NU G 43 (Dz (Ip lp G)) :=
 .mk Oi <| VE hL (an := eU lp G) (fun _ _ => obs (by kernel_rfl)) fun call a0 H n k => by kernel_rfl
noncomputable def Zi (lp : Aw) (G : AP) (call : AQ) (k : KV) : An := .n
theorem Tn {lp : Aw} (hL : DU lp) (G : AP) : NU G 44 (UA (HY lp G)) :=
 .mk N8 <| sf2 hL (an := Zi lp G) (fun _ _ => obs (by kernel_rfl)) fun call a0 a1 H n k => by kernel_rfl
noncomputable def iC (lp : Aw) (G : AP) (call : AQ) (k : KV) : An := (.s .n (.j (fun R=>N7 lp G call k) (.s .n (.b (.l _ (RD lp G call k) (fun R H n=>(rg R q0, rg R q7, rg R q8, rg R q9, H, n)) fun ih3=>.n))) .n))
theorem VY {lp : Aw} (hL : DU lp) (G : AP) : NU G 45 (UA (Jb lp G)) :=
 .mk PG <| sf2 hL (an := iC lp G) (fun _ _ => obs (by kernel_rfl)) fun call a0 a1 H n k => by kernel_rfl
noncomputable def YN (lp : Aw) (G : AP) (call : AQ) (k : KV) : An := (.s .n (.s .n (.s .n (.s .n (.s .n (.s .n (.s .n (.j (fun R=>FW lp G call k (rg R q0) (rg R q2) (rg R q4)) (.b (.l _ (NZ lp G call k) (fun R H n=>(rg R q0, rg R q2, rg R q4, H, n)) fun ih31=>(.s .n (.b (.j (fun R=>EG lp G call k ih31 (rg R q0) (rg R q2) (rg R q4)) .n .n))))) .n))))))))
theorem QJ {lp : Aw} (hL : DU lp) (G : AP) : NU G 46 (Dz (F6 lp G)) :=
 .mk Lc <| VE hL (an := YN lp G) (fun _ _ => obs (by kernel_rfl)) fun call a0 H n k => by kernel_rfl
noncomputable def aG (lp : Aw) (G : AP) (call : AQ) (k : KV) : An := .n
theorem Tt {lp : Aw} (hL : DU lp) (G : AP) : NU G 47 (UA (Hz lp G)) :=
 .mk N9 <| sf2 hL (an := aG lp G) (fun _ _ => obs (by kernel_rfl)) fun call a0 a1 H n k => by kernel_rfl
noncomputable def V5 (lp : Aw) (G : AP) (call : AQ) (k : KV) : An := .n
theorem OU {lp : Aw} (hL : DU lp) (G : AP) : NU G 48 (Dz (Eb lp G)) :=
 .mk JG <| VE hL (an := V5 lp G) (fun _ _ => obs (by kernel_rfl)) fun call a0 H n k => by kernel_rfl
noncomputable def Tc (lp : Aw) (G : AP) (call : AQ) (k : KV) : An := .n
theorem Kt {lp : Aw} (hL : DU lp) (G : AP) : NU G 49 (Dz (DX lp G)) :=
 .mk Gf <| VE hL (an := Tc lp G) (fun _ _ => obs (by kernel_rfl)) fun call a0 H n k => by kernel_rfl
noncomputable def Qc (lp : Aw) (G : AP) (call : AQ) (k : KV) : An := (.s .n (.j (fun R=>DR lp G call k (rg R q0) (rg R q1) (rg R q4)) (.b (.l _ (G8 lp G call k) (fun R H n=>(rg R q0, rg R q1, rg R q4, H, n)) fun ih51=>.n)) (.s .n (.j (fun R=>CZ lp G call k (rg R q0) (rg R q4) (rg R q12)) .n (.j (fun R=>Cb lp G call k (rg R q0) (rg R q4) (rg R q12)) .n .n)))))
theorem Jj {lp : Aw} (hL : DU lp) (G : AP) : NU G 50 (UA (DK lp G)) :=
 .mk FK <| sf2 hL (an := Qc lp G) (fun _ _ => obs (by kernel_rfl)) fun call a0 a1 H n k => by kernel_rfl
noncomputable def RX (lp : Aw) (G : AP) (call : AQ) (k : KV) : An := (.s .n (.j (fun R=>Ey lp G call k (rg R q0) (rg R q1) (rg R q2) (rg R q3) (rg R q4) (rg R q10) (rg R q11)) .n (.s .n (.s .n (.j (fun R=>E8 lp G call k (rg R q0) (rg R q1) (rg R q2) (rg R q3) (rg R q4) (rg R q10) (rg R q11) (rg R q12) (rg R q13)) .n (.j (fun R=>FC lp G call k (rg R q0) (rg R q3) (rg R q4) (rg R q10) (rg R q11) (rg R q12) (rg R q13)) (.s .n (.c (.s .n (.s .n (.s .n (.j (fun R=>JD lp G call k (rg R q0) (rg R q1) (rg R q3) (rg R q4) (rg R q10) (rg R q11) (rg R q12) (rg R q13)) (.b (.l _ (Io lp G call k) (fun R H n=>(rg R q0, rg R q1, rg R q3, rg R q4, rg R q10, rg R q11, rg R q12, rg R q13, rg R q14, rg R q15, rg R q16, H, n)) fun ih25=>.n)) .n)))) (.s .n (.j (fun R=>JE lp G call k (rg R q0) (rg R q1) (rg R q3) (rg R q4) (rg R q10) (rg R q11) (rg R q12) (rg R q13)) (.b (.l _ (Iq lp G call k) (fun R H n=>(rg R q0, rg R q1, rg R q3, rg R q4, rg R q10, rg R q11, rg R q12, rg R q13, rg R q17, H, n)) fun ih39=>.n)) .n)))) (.j (fun R=>Ez lp G call k (rg R q0) (rg R q4) (rg R q10) (rg R q11) (rg R q12) (rg R q13)) .n .n)))))))
theorem Ro {lp : Aw} (hL : DU lp) (G : AP) : NU G 51 (ar5 (Kv lp G)) :=
 .mk RV <| sf5 hL (an := RX lp G) (fun _ _ => obs (by kernel_rfl)) fun call a0 a1 a2 a3 a4 H n k => by kernel_rfl
noncomputable def lD (lp : Aw) (G : AP) (call : AQ) (k : KV) : An := (.s .n (.b (.l _ (Sl lp G call k) (fun R H n=>(rg R q0, rg R q4, rg R q5, H, n)) fun ih1=>(.s .n (.s .n (.s (.b (.s .n (.j (fun R=>Gj lp G call k ih1 (rg R q0) (rg R q4) (rg R q5)) .n .n))) .n))))))
theorem V8 {lp : Aw} (hL : DU lp) (G : AP) : NU G 58 (UA (KW lp G)) :=
 .mk QZ <| sf2 hL (an := lD lp G) (fun _ _ => obs (by kernel_rfl)) fun call a0 a1 H n k => by kernel_rfl
noncomputable def Zv (lp : Aw) (G : AP) (call : AQ) (k : KV) : An := .n
theorem TS {lp : Aw} (hL : DU lp) (G : AP) : NU G 59 (UA (IG lp G)) :=
 .mk Nj <| sf2 hL (an := Zv lp G) (fun _ _ => obs (by kernel_rfl)) fun call a0 a1 H n k => by kernel_rfl
noncomputable def bM (lp : Aw) (G : AP) (call : AQ) (k : KV) : An := .n
theorem Td {lp : Aw} (hL : DU lp) (G : AP) : NU G 60 (UA (G9 lp G)) :=
 .mk Nw <| sf2 hL (an := bM lp G) (fun _ _ => obs (by kernel_rfl)) fun call a0 a1 H n k => by kernel_rfl
noncomputable def yw (lp : Aw) (G : AP) (call : AQ) (k : KV) : An := .n
theorem lC {lp : Aw} (hL : DU lp) (G : AP) : NU G 61 (Dz (SH lp G)) :=
 .mk YT <| VE hL (an := yw lp G) (fun _ _ => obs (by kernel_rfl)) fun call a0 H n k => by kernel_rfl
noncomputable def lU (lp : Aw) (G : AP) (call : AQ) (k : KV) : An := (.s .n (.s .n (.j (fun R=>LG lp G call k (rg R q0) (rg R q5)) (.b (.l _ (SK lp G call k) (fun R H n=>(rg R q0, rg R q1, rg R q5, H, n)) fun ih13=>.n)) .n)))
theorem Xu {lp : Aw} (hL : DU lp) (G : AP) : NU G 62 (UA (MC lp G)) :=
 .mk Rw <| sf2 hL (an := lU lp G) (fun _ _ => obs (by kernel_rfl)) fun call a0 a1 H n k => by kernel_rfl
noncomputable def AAX (lp : Aw) (G : AP) (call : AQ) (k : KV) : An := .n
theorem kE {lp : Aw} (hL : DU lp) (G : AP) : NU G 63 (Dz (Tv lp G)) :=
 .mk Yw <| VE hL (an := AAX lp G) (fun _ _ => obs (by kernel_rfl)) fun call a0 H n k => by kernel_rfl
noncomputable def yZ (lp : Aw) (G : AP) (call : AQ) (k : KV) : An := .n
theorem jL {lp : Aw} (hL : DU lp) (G : AP) : NU G 64 (Dz (TJ lp G)) :=
 .mk Yi <| VE hL (an := yZ lp G) (fun _ _ => obs (by kernel_rfl)) fun call a0 H n k => by kernel_rfl
noncomputable def zB (lp : Aw) (G : AP) (call : AQ) (k : KV) : An := (.s .n (.s (.s .n (.b (.j (fun R=>BF lp G call k (rg R q4)) .n .n))) .n))
theorem iw {lp : Aw} (hL : DU lp) (G : AP) : NU G 65 (Dz (SY lp G)) :=
 .mk YZ <| VE hL (an := zB lp G) (fun _ _ => obs (by kernel_rfl)) fun call a0 H n k => by kernel_rfl
noncomputable def AAB (lp : Aw) (G : AP) (call : AQ) (k : KV) : An := .n
theorem kT {lp : Aw} (hL : DU lp) (G : AP) : NU G 66 (Dz (SX lp G)) :=
 .mk YI <| VE hL (an := AAB lp G) (fun _ _ => obs (by kernel_rfl)) fun call a0 H n k => by kernel_rfl
noncomputable def vk (lp : Aw) (G : AP) (call : AQ) (k : KV) : An := (.s .n (.s .n (.j (fun R=>UM lp G call k (rg R q4)) (.s .n (.b (.l _ (XY lp G call k) (fun R H n=>(rg R q4, rg R q8, rg R q9, rg R q10, H, n)) fun ih4=>.n))) .n)))
theorem fD {lp : Aw} (hL : DU lp) (G : AP) : NU G 67 (Dz (QN lp G)) :=
 .mk XG <| VE hL (an := vk lp G) (fun _ _ => obs (by kernel_rfl)) fun call a0 H n k => by kernel_rfl
noncomputable def aQ (lp : Aw) (G : AP) (call : AQ) (k : KV) : An := (.s .n (.s .n (.j (fun R=>Ew lp G call k (rg R q2) (rg R q3)) .n .n)))
theorem TK {lp : Aw} (hL : DU lp) (G : AP) : NU G 68 (Dz (IC lp G)) :=
 .mk Nz <| VE hL (an := aQ lp G) (fun _ _ => obs (by kernel_rfl)) fun call a0 H n k => by kernel_rfl
noncomputable def aC (lp : Aw) (G : AP) (call : AQ) (k : KV) : An := .n
theorem TG {lp : Aw} (hL : DU lp) (G : AP) : NU G 69 (Dz (Hq lp G)) :=
 .mk Nu <| VE hL (an := aC lp G) (fun _ _ => obs (by kernel_rfl)) fun call a0 H n k => by kernel_rfl
noncomputable def ZQ (lp : Aw) (G : AP) (call : AQ) (k : KV) : An := (.s .n (.s .n (.s .n (.s .n (.j (fun R=>Gy lp G call k (rg R q3) (rg R q22)) (.b (.l _ (Ox lp G call k) (fun R H n=>(rg R q0, rg R q3, rg R q22, H, n)) fun ih6=>.n)) .n)))))
theorem Q5 {lp : Aw} (hL : DU lp) (G : AP) : NU G 70 (Dz (Gq lp G)) :=
 .mk MV <| VE hL (an := ZQ lp G) (fun _ _ => obs (by kernel_rfl)) fun call a0 H n k => by kernel_rfl
noncomputable def TM (lp : Aw) (G : AP) (call : AQ) (k : KV) : An := .n
theorem Kz {lp : Aw} (hL : DU lp) (G : AP) : NU G 71 (Dz (DW lp G)) :=
 .mk GX <| VE hL (an := TM lp G) (fun _ _ => obs (by kernel_rfl)) fun call a0 H n k => by kernel_rfl
noncomputable def iD (lp : Aw) (G : AP) (call : AQ) (k : KV) : An := (.s .n (.j (fun R=>GZ lp G call k (rg R q0) (rg R q2)) .n (.j (fun R=>GU lp G call k (rg R q0) (rg R q2)) .n (.j (fun R=>GR lp G call k (rg R q0) (rg R q2)) .n .n))))
theorem VN {lp : Aw} (hL : DU lp) (G : AP) : NU G 72 (Dz (JY lp G)) :=
 .mk PV <| VE hL (an := iD lp G) (fun _ _ => obs (by kernel_rfl)) fun call a0 H n k => by kernel_rfl
noncomputable def S9 (lp : Aw) (G : AP) (call : AQ) (k : KV) : An := .n
theorem LC {lp : Aw} (hL : DU lp) (G : AP) : NU G 73 (Dz (DY lp G)) :=
 .mk GY <| VE hL (an := S9 lp G) (fun _ _ => obs (by kernel_rfl)) fun call a0 H n k => by kernel_rfl
noncomputable def P7 (lp : Aw) (G : AP) (call : AQ) (k : KV) : An := .n
theorem QC {lp : Aw} (hL : DU lp) (G : AP) : NU G 74 (Dz (J4 lp G)) :=
 .mk Qb <| VE hL (an := P7 lp G) (fun _ _ => obs (by kernel_rfl)) fun call a0 H n k => by kernel_rfl
noncomputable def VQ (lp : Aw) (G : AP) (call : AQ) (k : KV) : An := .n
theorem Vd {lp : Aw} (hL : DU lp) (G : AP) : NU G 75 (Dz (OZ lp G)) :=
 .mk Vq <| VE hL (an := VQ lp G) (fun _ _ => obs (by kernel_rfl)) fun call a0 H n k => by kernel_rfl
noncomputable def Py (lp : Aw) (G : AP) (call : AQ) (k : KV) : An := .n
theorem JF {lp : Aw} (hL : DU lp) (G : AP) : NU G 81 (UA (Cm lp G)) :=
 .mk Eo <| sf2 hL (an := Py lp G) (fun _ _ => obs (by kernel_rfl)) fun call a0 a1 H n k => by kernel_rfl
noncomputable def P6 (lp : Aw) (G : AP) (call : AQ) (k : KV) : An := .n
theorem JB {lp : Aw} (hL : DU lp) (G : AP) : NU G 82 (UA (DF lp G)) :=
 .mk Ep <| sf2 hL (an := P6 lp G) (fun _ _ => obs (by kernel_rfl)) fun call a0 a1 H n k => by kernel_rfl
noncomputable def AB7 (lp : Aw) (G : AP) (call : AQ) (k : KV) : An := .n
theorem uw {lp : Aw} (hL : DU lp) (G : AP) : NU G 83 (ar0 (Xc lp G)) :=
 .mk gV <| sf0 hL (an := AB7 lp G) (fun _ _ => obs (by kernel_rfl)) fun call  H n k => by kernel_rfl
noncomputable def ABM (lp : Aw) (G : AP) (call : AQ) (k : KV) : An := .n
theorem ny {lp : Aw} (hL : DU lp) (G : AP) : NU G 84 (ar0 (Vf lp G)) :=
 .mk bH <| sf0 hL (an := ABM lp G) (fun _ _ => obs (by kernel_rfl)) fun call  H n k => by kernel_rfl
noncomputable def AE8 (lp : Aw) (G : AP) (call : AQ) (k : KV) : An := .n
theorem xY {lp : Aw} (hL : DU lp) (G : AP) : NU G 85 (Dz (aP lp G)) :=
 .mk nH <| VE hL (an := AE8 lp G) (fun _ _ => obs (by kernel_rfl)) fun call a0 H n k => by kernel_rfl
noncomputable def Zn (lp : Aw) (G : AP) (call : AQ) (k : KV) : An := (.s .n (.j (fun R=>Eu lp G call k (rg R q1)) .n .n))
theorem SQ {lp : Aw} (hL : DU lp) (G : AP) : NU G 86 (Dz (Ho lp G)) :=
 .mk Na <| VE hL (an := Zn lp G) (fun _ _ => obs (by kernel_rfl)) fun call a0 H n k => by kernel_rfl
noncomputable def bT (lp : Aw) (G : AP) (call : AQ) (k : KV) : An := (.s .n (.s .n (.j (fun R=>Ci lp G call k (rg R q0) (rg R q2) (rg R q3)) .n .n)))
theorem TF {lp : Aw} (hL : DU lp) (G : AP) : NU G 87 (Dz (G6 lp G)) :=
 .mk NY <| VE hL (an := bT lp G) (fun _ _ => obs (by kernel_rfl)) fun call a0 H n k => by kernel_rfl
noncomputable def UY (lp : Aw) (G : AP) (call : AQ) (k : KV) : An := .n
theorem UN {lp : Aw} (hL : DU lp) (G : AP) : NU G 88 (Dz (NK lp G)) :=
 .mk Ub <| VE hL (an := UY lp G) (fun _ _ => obs (by kernel_rfl)) fun call a0 H n k => by kernel_rfl
noncomputable def UC (lp : Aw) (G : AP) (call : AQ) (k : KV) : An := .n
theorem UJ {lp : Aw} (hL : DU lp) (G : AP) : NU G 89 (Dz (NM lp G)) :=
 .mk UG <| VE hL (an := UC lp G) (fun _ _ => obs (by kernel_rfl)) fun call a0 H n k => by kernel_rfl
noncomputable def Y9 (lp : Aw) (G : AP) (call : AQ) (k : KV) : An := .n
theorem QV {lp : Aw} (hL : DU lp) (G : AP) : NU G 95 (Dz (Fe lp G)) :=
 .mk DT <| VE hL (an := Y9 lp G) (fun _ _ => obs (by kernel_rfl)) fun call a0 H n k => by kernel_rfl
noncomputable def cu (lp : Aw) (G : AP) (call : AQ) (k : KV) : An := .n
theorem TN {lp : Aw} (hL : DU lp) (G : AP) : NU G 96 (Dz (II lp G)) :=
 .mk Nr <| VE hL (an := cu lp G) (fun _ _ => obs (by kernel_rfl)) fun call a0 H n k => by kernel_rfl
noncomputable def Yf (lp : Aw) (G : AP) (call : AQ) (k : KV) : An := (.s .n (.s .n (.s .n (.s .n (.s .n (.s .n (.j (fun R=>DN lp G call k (rg R q2) (rg R q3) (rg R q37)) .n .n)))))))
theorem P9 {lp : Aw} (hL : DU lp) (G : AP) : NU G 97 (Dz (Fp lp G)) :=
 .mk LD <| VE hL (an := Yf lp G) (fun _ _ => obs (by kernel_rfl)) fun call a0 H n k => by kernel_rfl
noncomputable def ZY (lp : Aw) (G : AP) (call : AQ) (k : KV) : An := (.s .n (.s .n (.s (.s .n (.c (.j (fun R=>EU lp G call k) .n .n) .n)) (.j (fun R=>EX lp G call k (rg R q0) (rg R q1)) .n .n))))
theorem RI {lp : Aw} (hL : DU lp) (G : AP) : NU G 98 (UA (Gh lp G)) :=
 .mk MP <| sf2 hL (an := ZY lp G) (fun _ _ => obs (by kernel_rfl)) fun call a0 a1 H n k => by kernel_rfl
noncomputable def YE (lp : Aw) (G : AP) (call : AQ) (k : KV) : An := (.s .n (.s .n (.j (fun R=>Jp lp G call k (rg R q8) (rg R q9)) (.b (.l _ (OX lp G call k) (fun R H n=>(rg R q0, rg R q1, rg R q2, rg R q3, rg R q8, rg R q9, H, n)) fun ih8=>.n)) .n)))
theorem QO {lp : Aw} (hL : DU lp) (G : AP) : NU G 103 (ar4 (Fz lp G)) :=
 .mk LM <| sf4 hL (an := YE lp G) (fun _ _ => obs (by kernel_rfl)) fun call a0 a1 a2 a3 H n k => by kernel_rfl
noncomputable def Yd (lp : Aw) (G : AP) (call : AQ) (k : KV) : An := .n
theorem P8 {lp : Aw} (hL : DU lp) (G : AP) : NU G 104 (Dz (Fq lp G)) :=
 .mk LP <| VE hL (an := Yd lp G) (fun _ _ => obs (by kernel_rfl)) fun call a0 H n k => by kernel_rfl
noncomputable def XP (lp : Aw) (G : AP) (call : AQ) (k : KV) : An := (.s .n (.s .n (.s .n (.j (fun R=>D7 lp G call k (rg R q2) (rg R q4)) .n .n))))
theorem Ot {lp : Aw} (hL : DU lp) (G : AP) : NU G 105 (Dz (Ej lp G)) :=
 .mk Ju <| VE hL (an := XP lp G) (fun _ _ => obs (by kernel_rfl)) fun call a0 H n k => by kernel_rfl
noncomputable def Vx (lp : Aw) (G : AP) (call : AQ) (k : KV) : An := .n
theorem Ns {lp : Aw} (hL : DU lp) (G : AP) : NU G 106 (Dz (EF lp G)) :=
 .mk Ii <| VE hL (an := Vx lp G) (fun _ _ => obs (by kernel_rfl)) fun call a0 H n k => by kernel_rfl
noncomputable def ZV (lp : Aw) (G : AP) (call : AQ) (k : KV) : An := (.s .n (.s .n (.j (fun R=>KJ lp G call k (rg R q6) (rg R q7)) (.b (.l _ (O6 lp G call k) (fun R H n=>(rg R q0, rg R q1, rg R q2, rg R q6, rg R q7, H, n)) fun ih8=>.n)) .n)))
theorem Qu {lp : Aw} (hL : DU lp) (G : AP) : NU G 107 (ar3 (Gl lp G)) :=
 .mk MR <| sf3 hL (an := ZV lp G) (fun _ _ => obs (by kernel_rfl)) fun call a0 a1 a2 H n k => by kernel_rfl
noncomputable def UO (lp : Aw) (G : AP) (call : AQ) (k : KV) : An := .n
theorem MB {lp : Aw} (hL : DU lp) (G : AP) : NU G 108 (Dz (Dq lp G)) :=
 .mk Gz <| VE hL (an := UO lp G) (fun _ _ => obs (by kernel_rfl)) fun call a0 H n k => by kernel_rfl
noncomputable def Zc (lp : Aw) (G : AP) (call : AQ) (k : KV) : An := (.s .n (.s .n (.j (fun R=>GL lp G call k (rg R q0) (rg R q2) (rg R q63)) (.s .n (.b (.l _ (OY lp G call k) (fun R H n=>(rg R q0, rg R q2, rg R q3, rg R q16, rg R q17, rg R q18, rg R q63, H, n)) fun ih37=>.n))) (.s .n (.j (fun R=>Jq lp G call k (rg R q2) (rg R q6) (rg R q63)) (.b (.l _ (OQ lp G call k) (fun R H n=>(rg R q0, rg R q2, rg R q6, rg R q63, H, n)) fun ih17=>(.s .n (.b (.s .n (.s .n (.j (fun R=>Ec lp G call k ih17 (rg R q0) (rg R q2) (rg R q6) (rg R q7) (rg R q8) (rg R q63)) .n .n))))))) .n)))))
theorem Q7 {lp : Aw} (hL : DU lp) (G : AP) : NU G 109 (Dz (Gs lp G)) :=
 .mk MO <| VE hL (an := Zc lp G) (fun _ _ => obs (by kernel_rfl)) fun call a0 H n k => by kernel_rfl
noncomputable def ZO (lp : Aw) (G : AP) (call : AQ) (k : KV) : An := (.s .n (.s .n (.b (.l _ (Oo lp G call k) (fun R H n=>(rg R q0, rg R q2, rg R q3, H, n)) fun ih5=>.n))))
theorem Qz {lp : Aw} (hL : DU lp) (G : AP) : NU G 110 (Dz (GV lp G)) :=
 .mk MX <| VE hL (an := ZO lp G) (fun _ _ => obs (by kernel_rfl)) fun call a0 H n k => by kernel_rfl
noncomputable def aX (lp : Aw) (G : AP) (call : AQ) (k : KV) : An := (.s .n (.s .n (.s .n (.j (fun R=>Ak lp G call k (rg R q2) (rg R q4)) .n .n))))
theorem Sv {lp : Aw} (hL : DU lp) (G : AP) : NU G 111 (Dz (Hg lp G)) :=
 .mk Nv <| VE hL (an := aX lp G) (fun _ _ => obs (by kernel_rfl)) fun call a0 H n k => by kernel_rfl
noncomputable def YF (lp : Aw) (G : AP) (call : AQ) (k : KV) : An := .n
theorem QL {lp : Aw} (hL : DU lp) (G : AP) : NU G 112 (ar3 (Fb lp G)) :=
 .mk LY <| sf3 hL (an := YF lp G) (fun _ _ => obs (by kernel_rfl)) fun call a0 a1 a2 H n k => by kernel_rfl
noncomputable def Z4 (lp : Aw) (G : AP) (call : AQ) (k : KV) : An := (.s .n (.s .n (.s .n (.j (fun R=>IX lp G call k (rg R q3)) (.b (.l _ (Po lp G call k) (fun R H n=>(rg R q0, rg R q3, H, n)) fun ih4=>(.s .n (.b (.j (fun R=>En lp G call k ih4 (rg R q0) (rg R q3)) .n .n))))) .n))))
theorem TD {lp : Aw} (hL : DU lp) (G : AP) : NU G 113 (Dz (Hf lp G)) :=
 .mk Nq <| VE hL (an := Z4 lp G) (fun _ _ => obs (by kernel_rfl)) fun call a0 H n k => by kernel_rfl
noncomputable def kV (lp : Aw) (G : AP) (call : AQ) (k : KV) : An := .n
theorem WC {lp : Aw} (hL : DU lp) (G : AP) : NU G 114 (Dz (KD lp G)) :=
 .mk QA <| VE hL (an := kV lp G) (fun _ _ => obs (by kernel_rfl)) fun call a0 H n k => by kernel_rfl
end Go.PQ
namespace Go.PQ
open Go.Eng
set_option maxRecDepth 100000
noncomputable def FS (lp : Aw) (G : AP) : T SF := (.n none (.n none (.n none (.n none (.n (some (Dz (MG lp G))) (.n none (.n (some (Dz (Tv lp G))) .e .e) (.n (some (Dz (Fe lp G))) .e .e)) (.n (some (UA (Hz lp G))) .e (.n (some (Dz (Hg lp G))) .e .e))) (.n none (.n (some (Dz (KN lp G))) (.n (some (Dz (DW lp G))) .e .e) (.n (some (ar4 (Fz lp G))) .e .e)) (.n none (.n (some (Dz (G6 lp G))) .e .e) .e))) (.n none (.n (some (Dz (FQ lp G))) (.n none (.n (some (Dz (QN lp G))) .e .e) .e) (.n (some (ar5 (Kv lp G))) (.n (some (ar0 (Xc lp G))) .e .e) .e)) (.n (some (Dz (Ei lp G))) (.n (some (Dz (Ip lp G))) (.n (some (Dz (OZ lp G))) .e .e) (.n (some (ar3 (Gl lp G))) .e .e)) (.n (some (UA (IG lp G))) .e .e)))) (.n none (.n (some (ar0 (KC lp G))) (.n none (.n none (.n (some (Dz (SY lp G))) .e .e) (.n (some (Dz (Fp lp G))) .e .e)) (.n (some (Dz (DX lp G))) (.n (some (UA (Cm lp G))) .e .e) (.n (some (Dz (Hf lp G))) .e .e))) (.n (some (Dz (Gg lp G))) (.n (some (UA (Hy lp G))) (.n (some (Dz (DY lp G))) .e .e) (.n (some (Dz (Ej lp G))) .e .e)) (.n none (.n (some (Dz (NM lp G))) .e .e) .e))) (.n (some (Dz (Nl lp G))) (.n none (.n none (.n (some (Dz (Hq lp G))) .e .e) .e) (.n none (.n (some (Dz (aP lp G))) .e .e) .e)) (.n (some (UA (DZ lp G))) (.n (some (UA (Jb lp G))) .e (.n (some (Dz (Gs lp G))) .e .e)) (.n (some (Dz (SH lp G))) .e .e))))) (.n none (.n none (.n none (.n (some (Dz (Le lp G))) (.n none (.n (some (Dz (TJ lp G))) .e .e) (.n (some (Dz (II lp G))) .e .e)) (.n (some (Dz (Eb lp G))) .e (.n (some (ar3 (Fb lp G))) .e .e))) (.n (some (Dz (YD lp G))) (.n (some (UA (Hl lp G))) (.n (some (Dz (JY lp G))) .e .e) (.n (some (Dz (Fq lp G))) .e .e)) (.n none (.n (some (Dz (NK lp G))) .e .e) .e))) (.n none (.n none (.n none (.n (some (Dz (IC lp G))) .e .e) .e) (.n none (.n (some (ar0 (Vf lp G))) .e .e) .e)) (.n (some (Dz (Jh lp G))) (.n (some (UA (HY lp G))) .e (.n (some (Dz (Dq lp G))) .e .e)) (.n (some (UA (G9 lp G))) .e .e)))) (.n (some (UA (FI lp G))) (.n (some (Dz (Ou lp G))) (.n none (.n none (.n (some (Dz (SX lp G))) .e .e) (.n (some (UA (Gh lp G))) .e .e)) (.n (some (UA (DK lp G))) (.n (some (UA (DF lp G))) .e .e) (.n (some (Dz (KD lp G))) .e .e))) (.n (some (Dz (Jk lp G))) (.n (some (UA (IE lp G))) (.n (some (Dz (J4 lp G))) .e .e) (.n (some (Dz (EF lp G))) .e .e)) (.n (some (UA (KW lp G))) .e .e))) (.n (some (Dz (Lr lp G))) (.n none (.n (some (Dz (KT lp G))) (.n (some (Dz (Gq lp G))) .e .e) .e) (.n none (.n (some (Dz (Ho lp G))) .e .e) .e)) (.n none (.n (some (Dz (F6 lp G))) .e (.n (some (Dz (GV lp G))) .e .e)) (.n (some (UA (MC lp G))) .e .e))))))
theorem ALj {lp : Aw} (hL : DU lp) (G : AP) : T.All (fun p s => NU G p.key s) (FS lp G) := (.n0 (.n0 (.n0 (.n0 (.n1 (Xh hL G) (.n0 (.n1 (kE hL G) .e .e) (.n1 (QV hL G) .e .e)) (.n1 (Tt hL G) .e (.n1 (Sv hL G) .e .e))) (.n0 (.n1 (WU hL G) (.n1 (Kz hL G) .e .e) (.n1 (QO hL G) .e .e)) (.n0 (.n1 (TF hL G) .e .e) .e))) (.n0 (.n1 (RQ hL G) (.n0 (.n1 (fD hL G) .e .e) .e) (.n1 (Ro hL G) (.n1 (uw hL G) .e .e) .e)) (.n1 (O3 hL G) (.n1 (Uh hL G) (.n1 (Vd hL G) .e .e) (.n1 (Qu hL G) .e .e)) (.n1 (TS hL G) .e .e)))) (.n0 (.n1 (WS hL G) (.n0 (.n0 (.n1 (iw hL G) .e .e) (.n1 (P9 hL G) .e .e)) (.n1 (Kt hL G) (.n1 (JF hL G) .e .e) (.n1 (TD hL G) .e .e))) (.n1 (RG hL G) (.n1 (SI hL G) (.n1 (LC hL G) .e .e) (.n1 (Ot hL G) .e .e)) (.n0 (.n1 (UJ hL G) .e .e) .e))) (.n1 (ZH hL G) (.n0 (.n0 (.n1 (TG hL G) .e .e) .e) (.n0 (.n1 (xY hL G) .e .e) .e)) (.n1 (Ky hL G) (.n1 (VY hL G) .e (.n1 (Q7 hL G) .e .e)) (.n1 (lC hL G) .e .e))))) (.n0 (.n0 (.n0 (.n1 (X5 hL G) (.n0 (.n1 (jL hL G) .e .e) (.n1 (TN hL G) .e .e)) (.n1 (OU hL G) .e (.n1 (QL hL G) .e .e))) (.n1 (uI hL G) (.n1 (Sr hL G) (.n1 (VN hL G) .e .e) (.n1 (P8 hL G) .e .e)) (.n0 (.n1 (UN hL G) .e .e) .e))) (.n0 (.n0 (.n0 (.n1 (TK hL G) .e .e) .e) (.n0 (.n1 (ny hL G) .e .e) .e)) (.n1 (VJ hL G) (.n1 (Tn hL G) .e (.n1 (MB hL G) .e .e)) (.n1 (Td hL G) .e .e)))) (.n1 (PX hL G) (.n1 (bC hL G) (.n0 (.n0 (.n1 (kT hL G) .e .e) (.n1 (RI hL G) .e .e)) (.n1 (Jj hL G) (.n1 (JB hL G) .e .e) (.n1 (WC hL G) .e .e))) (.n1 (Vs hL G) (.n1 (TL hL G) (.n1 (QC hL G) .e .e) (.n1 (Ns hL G) .e .e)) (.n1 (V8 hL G) .e .e))) (.n1 (Xw hL G) (.n0 (.n1 (WZ hL G) (.n1 (Q5 hL G) .e .e) .e) (.n0 (.n1 (SQ hL G) .e .e) .e)) (.n0 (.n1 (QJ hL G) .e (.n1 (Qz hL G) .e .e)) (.n1 (Xu hL G) .e .e))))))
theorem ATt {lp : Aw} (hL : DU lp) (G : AP) : AAl F G (FS lp G) := fun f s h => by
 have := T.All.DI (p := Ld f) (ALj hL G) h
 rw [jk] at this
 obtain ⟨h, o⟩ := this
 exact ⟨_, h, o⟩
end Go.PQ
