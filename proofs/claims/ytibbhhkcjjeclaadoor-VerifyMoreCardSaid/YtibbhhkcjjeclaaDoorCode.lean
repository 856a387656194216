/- Part of a proof: texts LQNm LQTr LQOk of the engine and what is proved with it; nothing is assumed. -/
import Derived.Test.YtibbhhkcjjeclaaDoorEngA
import Derived.Test.YtibbhhkcjjeclaaDoorEngF
import Derived.Test.YtibbhhkcjjeclaaDoorProg
set_option linter.unusedVariables false
set_option linter.unusedSimpArgs false
noncomputable section
namespace Go.RL
open Go.Ba
def q0 : P2 := .h
def q1 : P2 := .z q0
def q2 : P2 := .o q0
def q3 : P2 := .z q1
def q4 : P2 := .o q1
def q5 : P2 := .z q2
def q6 : P2 := .o q2
def q7 : P2 := .z q3
def q8 : P2 := .o q3
def q9 : P2 := .z q4
def q10 : P2 := .o q4
def q11 : P2 := .z q5
def q12 : P2 := .o q5
def q13 : P2 := .z q6
def q14 : P2 := .o q6
def q15 : P2 := .z q7
def q16 : P2 := .o q7
def q17 : P2 := .z q8
def q18 : P2 := .o q8
def q19 : P2 := .z q9
def q20 : P2 := .o q9
def q21 : P2 := .z q10
def q22 : P2 := .o q10
def q23 : P2 := .z q11
def q24 : P2 := .o q11
def q25 : P2 := .z q12
def q26 : P2 := .o q12
def q27 : P2 := .z q13
def q28 : P2 := .o q13
def q29 : P2 := .z q14
def q30 : P2 := .o q14
def q31 : P2 := .z q15
def q32 : P2 := .o q15
def q33 : P2 := .z q16
def q34 : P2 := .o q16
def q35 : P2 := .z q17
def q36 : P2 := .o q17
def q37 : P2 := .z q18
def q38 : P2 := .o q18
def q39 : P2 := .z q19
def q40 : P2 := .o q19
def q41 : P2 := .z q20
def q42 : P2 := .o q20
def q43 : P2 := .z q21
def q44 : P2 := .o q21
def q45 : P2 := .z q22
def q46 : P2 := .o q22
def q48 : P2 := .o q23
def q49 : P2 := .z q24
def q50 : P2 := .o q24
def q51 : P2 := .z q25
def q52 : P2 := .o q25
def q53 : P2 := .z q26
def q54 : P2 := .o q26
def q55 : P2 := .z q27
def q60 : P2 := .o q29
def q61 : P2 := .z q30
def q62 : P2 := .o q30
def q63 : P2 := .z q31
def q64 : P2 := .o q31
def q65 : P2 := .z q32
def q66 : P2 := .o q32
def q67 : P2 := .z q33
def q68 : P2 := .o q33
def q69 : P2 := .z q34
def q72 : P2 := .o q35
def q73 : P2 := .z q36
def q74 : P2 := .o q36
def q75 : P2 := .z q37
def q76 : P2 := .o q37
def q77 : P2 := .z q38
def q78 : P2 := .o q38
def q79 : P2 := .z q39
def q80 : P2 := .o q39
def q83 : P2 := .z q41
def q84 : P2 := .o q41
def q85 : P2 := .z q42
def q86 : P2 := .o q42
def q87 : P2 := .z q43
def q92 : P2 := .o q45
def q93 : P2 := .z q46
def q94 : P2 := .o q46
def q98 : P2 := .o q48
def ANw : P2 := .z q54
def AN6 : P2 := .o q54
def APO : P2 := .z q55
def ARA : P2 := .z q64
def AQr : P2 := .o q64
def AQL : P2 := .z q65
def AQ8 : P2 := .z q69
def AQn : P2 := .o q76
abbrev Yh : Nat := 10
abbrev Y6 : Nat := 13
abbrev nX : Nat := 14
abbrev XA : Nat := 17
abbrev Vu : Nat := 18
abbrev EX : Nat := 19
abbrev WY : Nat := 21
abbrev SS : Nat := 25
abbrev VG : Nat := 26
abbrev Iw : Nat := 29
abbrev Ja : Nat := 31
abbrev JE : Nat := 32
abbrev ZB : Nat := 33
abbrev aX : Nat := 34
abbrev KC : Nat := 35
abbrev Y7 : Nat := 37
abbrev Vf : Nat := 38
abbrev ru : Nat := 39
abbrev Va : Nat := 40
abbrev WW : Nat := 41
abbrev EG : Nat := 42
abbrev Ph : Nat := 43
abbrev Pq : Nat := 44
abbrev UQ : Nat := 45
abbrev Dl : Nat := 46
abbrev IK : Nat := 47
abbrev OA : Nat := 49
abbrev JF : Nat := 50
abbrev Un : Nat := 53
abbrev UH : Nat := 56
abbrev UL : Nat := 57
abbrev RG : Nat := 58
abbrev Vk : Nat := 59
abbrev YK : Nat := 60
abbrev WT : Nat := 61
abbrev kK : Nat := 62
abbrev WM : Nat := 63
abbrev JU : Nat := 64
abbrev ML : Nat := 65
abbrev OL : Nat := 66
abbrev Bh : Nat := 67
abbrev DW : Nat := 70
abbrev OJ : Nat := 71
abbrev Rz : Nat := 72
abbrev D7 : Nat := 73
abbrev W9 : Nat := 77
abbrev fU : Nat := 79
abbrev F7 : Nat := 81
abbrev EJ : Nat := 82
abbrev UW : Nat := 83
abbrev Dh : Nat := 90
abbrev Ou : Nat := 91
abbrev Sr : Nat := 92
abbrev pG : Nat := 93
abbrev Oz : Nat := 94
abbrev XV : Nat := 95
abbrev Ey : Nat := 96
abbrev Aj : Nat := 97
abbrev DV : Nat := 98
abbrev Ap : Nat := 99
abbrev QL : Nat := 100
abbrev PW : Nat := 103
abbrev G9 : Nat := 108
abbrev Uu : Nat := 109
abbrev RF : Nat := 110
end Go.RL
namespace Go.RL
open Go.Ba
set_option maxRecDepth 100000
abbrev tr (l : List (Nat × Nat)) (d : Bool) (o : AFw) (g : Nat) (f : Func) : Option AF := trF Go.Proofs.Tryd.prog (inR l) d o g f
abbrev RH := tr [(21,21),(23,34),(36,39),(41,51),(56,76),(81,113),(115,134)] false [] 0 Proofs.Tryd.f10
def Gj := Bo RH
theorem Xj : RH = some Gj := Ak (by kernel_rfl)
abbrev Y9 := tr [(9,12),(14,17)] false [] 0 Proofs.Tryd.f13
def Oc := Bo Y9
theorem lF : Y9 = some Oc := Ak (by kernel_rfl)
abbrev nU := tr [(13,14),(16,18),(23,24),(37,39),(41,41),(62,72),(77,78),(87,87),(89,93),(95,96)] false [(8,Wp 14),(13,Wp 9),(14,Wp 13),(21,Wp 9)] 0 Proofs.Tryd.f14
def U1 := Bo nU
theorem AAD : nU = some U1 := Ak (by kernel_rfl)
abbrev WX := tr [(11,11),(28,52),(54,55)] false [(1,Wp 12)] 0 Proofs.Tryd.f17
def Lh := Bo WX
theorem iY : WX = some Lh := Ak (by kernel_rfl)
abbrev VZ := tr [(3,3),(5,9)] false [] 0 Proofs.Tryd.f18
def Jp := Bo VZ
theorem dY : VZ = some Jp := Ak (by kernel_rfl)
abbrev VN := tr [(9,9),(11,22),(24,24),(31,31)] false [(6,[(0,.plain),(1,.plain),(2,.plain),(4,.plain),(5,.plain),(3,.plain),(6,.wr),(7,.wr)])] 0 Proofs.Tryd.f19
def Jo := Bo VN
theorem dK : VN = some Jo := Ak (by kernel_rfl)
abbrev XG := tr [(8,8),(10,21)] false [] 0 Proofs.Tryd.f21
def Le := Bo XG
theorem iZ : XG = some Le := Ak (by kernel_rfl)
abbrev Xg := tr [(3,25)] false [] 0 Proofs.Tryd.f25
def Nq := Bo Xg
theorem kD : Xg = some Nq := Ak (by kernel_rfl)
abbrev Zo := tr [(6,6),(11,11),(16,25),(30,32),(43,45),(47,54)] false [(8,Wp 11)] 0 Proofs.Tryd.f26
def PS := Bo Zo
theorem qA : Zo = some PS := Ak (by kernel_rfl)
abbrev xW := tr [(1,1)] false [] 0 Proofs.Tryd.f29
def Yw := Bo xW
theorem ADA : xW = some Yw := Ak (by kernel_rfl)
abbrev eu := tr [(5,7)] false [] 0 Proofs.Tryd.f31
def RP := Bo eu
theorem uI : eu = some RP := Ak (by kernel_rfl)
abbrev Wu := tr [(5,10),(12,15)] false [] 0 Proofs.Tryd.f32
def Lr := Bo Wu
theorem jD : Wu = some Lr := Ak (by kernel_rfl)
abbrev ZA := tr [(7,37)] false [] 0 Proofs.Tryd.f33
def OQ := Bo ZA
theorem lK : ZA = some OQ := Ak (by kernel_rfl)
abbrev Z8 := tr [(3,4),(6,9)] false [] 0 Proofs.Tryd.f34
def PU := Bo Z8
theorem qJ : Z8 = some PU := Ak (by kernel_rfl)
abbrev Zv := tr [(3,8)] false [] 0 Proofs.Tryd.f35
def PO := Bo Zv
theorem pY : Zv = some PO := Ak (by kernel_rfl)
abbrev Y2 := tr [(13,56),(58,59),(64,67),(69,71),(76,80),(82,84),(89,104),(106,108),(113,125),(127,128),(133,137),(139,139)] false [] 0 Proofs.Tryd.f37
def OT := Bo Y2
theorem nH : Y2 = some OT := Ak (by kernel_rfl)
abbrev WB := tr [(9,27),(29,29),(34,47),(49,80),(82,82),(87,88),(95,96)] false [(15,Wp 6)] 0 Proofs.Tryd.f38
def Ju := Bo WB
theorem dO : WB = some Ju := Ak (by kernel_rfl)
abbrev sK := tr [(6,9),(14,15),(23,24)] false [(5,Wp 8)] 0 Proofs.Tryd.f39
def WV := Bo sK
theorem ABZ : sK = some WV := Ak (by kernel_rfl)
abbrev VY := tr [(10,10),(13,14),(18,18),(21,31),(33,49),(51,59),(61,62),(64,66),(71,77),(79,88),(90,91),(96,105),(107,127),(129,129)] false [] 0 Proofs.Tryd.f40
def Js := Bo VY
theorem dI : VY = some Js := Ak (by kernel_rfl)
abbrev WU := tr [(14,14),(16,16),(21,22),(32,32),(41,41),(46,47),(62,69),(71,72),(77,85),(87,87)] false [(4,Wp 9),(7,Wp 8),(12,opp [0,1,2,3,4,5,6,7,8,14,9,10,11,12,13,15,16,17])] 0 Proofs.Tryd.f41
def LX := Bo WU
theorem jA : WU = some LX := Ak (by kernel_rfl)
abbrev WR := tr [(8,8),(10,26)] false [] 0 Proofs.Tryd.f42
def Ky := Bo WR
theorem fO : WR = some Ky := Ak (by kernel_rfl)
abbrev Vm := tr [(10,10),(14,14),(17,22),(27,40),(44,45)] false [(8,Wp 5)] 0 Proofs.Tryd.f43
def Jj := Bo Vm
theorem dh : Vm = some Jj := Ak (by kernel_rfl)
abbrev VW := tr [(8,8),(13,17),(19,21)] false [] 0 Proofs.Tryd.f44
def Jr := Bo VW
theorem dN : VW = some Jr := Ak (by kernel_rfl)
abbrev Y0 := tr [(5,30)] false [] 0 Proofs.Tryd.f45
def OZ := Bo Y0
theorem lS : Y0 = some OZ := Ak (by kernel_rfl)
abbrev Jg := tr [(5,8)] false [] 0 Proofs.Tryd.f46
def DZ := Bo Jg
theorem Qo : Jg = some DZ := Ak (by kernel_rfl)
abbrev VX := tr [(7,7),(13,16),(18,20),(22,29),(31,31)] false [] 0 Proofs.Tryd.f47
def Jv := Bo VX
theorem dV : VX = some Jv := Ak (by kernel_rfl)
abbrev UF := tr [(8,19),(41,58),(86,106),(108,123),(125,140),(142,146)] false [(4,Wp 11),(6,Wp 10),(10,Wp 13),(11,Wp 15)] 0 Proofs.Tryd.f49
def Ih := Bo UF
theorem ZI : UF = some Ih := Ak (by kernel_rfl)
abbrev ACg := tr [(3,4)] false [] 0 Proofs.Tryd.f50
def bM := Bo ACg
theorem AFm : ACg = some bM := Ak (by kernel_rfl)
abbrev Ud := tr [(12,12),(16,16),(19,24),(29,48),(52,53)] false [(8,Wp 5)] 0 Proofs.Tryd.f53
def JX := Bo Ud
theorem Zp : Ud = some JX := Ak (by kernel_rfl)
abbrev Y1 := tr [(3,8)] false [] 0 Proofs.Tryd.f56
def Oe := Bo Y1
theorem mF : Y1 = some Oe := Ak (by kernel_rfl)
abbrev ZE := tr [(9,29),(31,31),(36,47),(49,50),(55,72),(74,74),(79,83),(85,86)] false [] 0 Proofs.Tryd.f57
def OW := Bo ZE
theorem mV : ZE = some OW := Ak (by kernel_rfl)
abbrev Wy := tr [(8,47),(49,49),(54,70),(72,75),(80,107),(109,111)] false [] 0 Proofs.Tryd.f58
def La := Bo Wy
theorem fV : Wy = some La := Ak (by kernel_rfl)
abbrev Vl := tr [(13,27),(32,34),(36,37),(42,45),(47,48),(53,56),(58,59),(64,88),(90,91),(96,106),(108,108)] false [] 0 Proofs.Tryd.f59
def Jm := Bo Vl
theorem dQ : Vl = some Jm := Ak (by kernel_rfl)
abbrev X4 := tr [(6,8),(10,13),(15,17)] false [(6,Wp 12)] 0 Proofs.Tryd.f60
def Nk := Bo X4
theorem kC : X4 = some Nk := Ak (by kernel_rfl)
abbrev WQ := tr [(5,5)] false [] 0 Proofs.Tryd.f61
def LW := Bo WQ
theorem iD : WQ = some LW := Ak (by kernel_rfl)
abbrev kS := tr [(5,6),(10,10),(29,31),(35,35),(54,54)] false [(4,Wp 18),(10,Wp 18)] 0 Proofs.Tryd.f62
def S9 := Bo kS
theorem wO : kS = some S9 := Ak (by kernel_rfl)
abbrev XD := tr [(8,8),(13,17),(19,22)] false [] 0 Proofs.Tryd.f63
def LM := Bo XD
theorem jG : XD = some LM := Ak (by kernel_rfl)
abbrev JW := tr [(6,9),(11,11),(15,15),(25,25)] false [(6,Wp 9)] 0 Proofs.Tryd.f64
def DK := Bo JW
theorem QU : JW = some DK := Ak (by kernel_rfl)
abbrev MF := tr [(6,6),(10,15),(17,18)] false [] 0 Proofs.Tryd.f65
def EI := Bo MF
theorem TI : MF = some EI := Ak (by kernel_rfl)
abbrev oW := tr [(3,22)] false [] 0 Proofs.Tryd.f66
def U4 := Bo oW
theorem AAN : oW = some U4 := Ak (by kernel_rfl)
abbrev X0 := tr [(3,22)] false [] 0 Proofs.Tryd.f67
def Nl := Bo X0
theorem ku : X0 = some Nl := Ak (by kernel_rfl)
abbrev Rh := tr [(18,24),(26,33),(35,36),(62,62),(67,69),(86,86),(107,108),(113,115),(151,151),(153,162)] false [(6,Wp 18),(8,Wp 9),(14,opp [0,1,2,3,4,5,6,7,8,9,10,11,16,12,13,14,15,17,18]),(17,[(0,.plain),(1,.plain),(2,.plain),(3,.plain),(4,.plain),(5,.plain),(6,.plain),(7,.plain),(8,.plain),(9,.plain),(10,.plain),(11,.plain),(12,.wr)]),(18,Wp 8),(23,opp [0,1,2,3,4,5,6,7,8,9,10,11,16,12,13,14,15,17,18]),(24,[(0,.plain),(1,.plain),(2,.plain),(3,.plain),(4,.plain),(5,.plain),(6,.plain),(7,.plain),(8,.plain),(9,.plain),(10,.plain),(11,.plain),(12,.wr)]),(25,Wp 8)] 0 Proofs.Tryd.f70
def Hr := Bo Rh
theorem Ym : Rh = some Hr := Ak (by kernel_rfl)
abbrev TG := tr [] false [(1,opp [0,1,3,4,2,5,6,7])] 0 Proofs.Tryd.f71
def Ii := Bo TG
theorem ZG : TG = some Ii := Ak (by kernel_rfl)
abbrev Ry := tr [(12,12),(15,15),(17,19),(22,26),(28,32),(34,38),(40,40),(65,70),(79,79),(81,97),(99,112),(114,125),(127,138),(140,186),(188,193),(195,200),(202,208),(210,219),(221,225)] false [(10,Wp 24),(13,Wp 9)] 0 Proofs.Tryd.f72
def Ht := Bo Ry
theorem Yi : Ry = some Ht := Ak (by kernel_rfl)
abbrev Qm := tr [(7,13),(15,16)] false [] 0 Proofs.Tryd.f73
def Gf := Bo Qm
theorem Xy : Qm = some Gf := Ak (by kernel_rfl)
abbrev Wq := tr [(8,10),(15,30)] false [(3,Wp 4)] 0 Proofs.Tryd.f77
def LQ := Bo Wq
theorem iV : Wq = some LQ := Ak (by kernel_rfl)
abbrev wE := tr [(1,1)] false [] 0 Proofs.Tryd.f79
def WS := Bo wE
theorem ABR : wE = some WS := Ak (by kernel_rfl)
abbrev fA := tr [(1,1)] false [] 0 Proofs.Tryd.f81
def Q9 := Bo fA
theorem qx : fA = some Q9 := Ak (by kernel_rfl)
abbrev XF := tr [] false [(1,Wp 12)] 0 Proofs.Tryd.f82
def Lc := Bo XF
theorem jB : XF = some Lc := Ak (by kernel_rfl)
abbrev Y3 := tr [(3,5)] false [] 0 Proofs.Tryd.f83
def OY := Bo Y3
theorem nD : Y3 = some OY := Ak (by kernel_rfl)
abbrev F5 := tr [(5,8)] false [] 0 Proofs.Tryd.f90
def CG := Bo F5
theorem Nj : F5 = some CG := Ak (by kernel_rfl)
abbrev Ub := tr [(3,5)] false [] 0 Proofs.Tryd.f91
def I9 := Bo Ub
theorem Ze : Ub = some I9 := Ak (by kernel_rfl)
abbrev fC := tr [(3,10)] false [] 0 Proofs.Tryd.f92
def RQ := Bo fC
theorem uG : fC = some RQ := Ak (by kernel_rfl)
abbrev ny := tr [(3,6)] false [] 0 Proofs.Tryd.f93
def U2 := Bo ny
theorem zT : ny = some U2 := Ak (by kernel_rfl)
abbrev Uh := tr [(7,11),(13,17),(19,23),(25,29),(31,35),(37,39),(41,44)] false [] 0 Proofs.Tryd.f94
def JK := Bo Uh
theorem aO : Uh = some JK := Ak (by kernel_rfl)
abbrev fJ := tr [(10,13),(22,22),(31,31),(33,38),(48,48),(50,52)] false [(3,Wp 8),(5,Wp 8),(8,Wp 10)] 0 Proofs.Tryd.f95
def Qu := Bo fJ
theorem vw : fJ = some Qu := Ak (by kernel_rfl)
abbrev JB := tr [(3,3),(5,7)] false [] 0 Proofs.Tryd.f96
def DN := Bo JB
theorem QV : JB = some DN := Ak (by kernel_rfl)
abbrev Rk := tr [] false [(1,Wp 11),(2,Wp 12)] 0 Proofs.Tryd.f97
def IE := Bo Rk
theorem Yq : Rk = some IE := Ak (by kernel_rfl)
abbrev Ut := tr [(6,12),(14,31)] false [] 0 Proofs.Tryd.f98
def I5 := Bo Ut
theorem bC : Ut = some I5 := Ak (by kernel_rfl)
abbrev TS := tr [(9,12),(14,21),(46,54)] false [(5,Wp 24)] 0 Proofs.Tryd.f99
def Ig := Bo TS
theorem ZL : TS = some Ig := Ak (by kernel_rfl)
abbrev QO := tr [(13,13),(16,16),(32,32),(67,76),(106,106),(117,131),(133,133),(155,156),(167,172),(174,194),(196,205)] false [(3,Wp 15),(5,Wp 34),(11,Wp 12),(12,Wp 17),(14,Wp 12),(17,Wp 12),(18,opp [0,1,2,3,5,6,7,4,8,9,10]),(21,Wp 12)] 0 Proofs.Tryd.f100
def F6 := Bo QO
theorem XZ : QO = some F6 := Ak (by kernel_rfl)
abbrev V3 := tr [(8,17)] false [] 0 Proofs.Tryd.f103
def Jh := Bo V3
theorem dA : V3 = some Jh := Ak (by kernel_rfl)
abbrev Hf := tr [(6,6),(10,15),(17,18)] false [] 0 Proofs.Tryd.f108
def Cb := Bo Hf
theorem OV : Hf = some Cb := Ak (by kernel_rfl)
abbrev Uw := tr [(8,8),(11,16),(21,25),(27,28)] false [] 0 Proofs.Tryd.f109
def JI := Bo Uw
theorem Zg : Uw = some JI := Ak (by kernel_rfl)
abbrev Qn := tr [(10,11),(13,17),(44,45)] false [(3,Wp 17),(4,Wp 12),(6,opp [0,1,2,3,4,5,7,6,8,9,10,11,12]),(7,Wp 18)] 0 Proofs.Tryd.f110
def Gm := Bo Qn
theorem Xn : Qn = some Gm := Ak (by kernel_rfl)
def F : T AF := (.n none (.n none (.n none (.n none (.n none (.n (some RP) (.n (some LM) .e .e) (.n (some Qu) .e .e)) (.n (some Jv) (.n (some WS) .e .e) .e)) (.n none (.n (some WV) (.n (some Ii) .e .e) (.n (some Jh) .e .e)) .e)) (.n none (.n (some Jo) (.n (some PO) (.n (some Nl) .e .e) (.n (some Ig) .e .e)) (.n none (.n (some OY) .e .e) .e)) (.n none (.n (some Jj) .e .e) (.n (some Jm) (.n (some I9) .e .e) .e)))) (.n none (.n none (.n (some Lh) (.n (some OQ) (.n (some EI) .e .e) (.n (some IE) .e .e)) (.n (some Ih) (.n (some Q9) .e .e) .e)) (.n (some Nq) (.n (some LX) (.n (some Gf) .e .e) .e) (.n (some OW) .e .e))) (.n (some Oc) (.n (some Le) (.n (some OT) .e .e) (.n (some JX) .e .e)) (.n (some Yw) (.n (some OZ) (.n (some LQ) .e .e) (.n (some JI) .e .e)) (.n (some LW) (.n (some U2) .e .e) .e))))) (.n none (.n none (.n none (.n none (.n (some Lr) (.n (some DK) .e .e) (.n (some DN) .e .e)) .e) (.n none (.n (some Js) (.n (some Ht) .e .e) .e) (.n (some Oe) .e .e))) (.n none (.n none (.n none .e (.n (some F6) .e .e)) .e) (.n none (.n (some Jr) .e (.n (some Cb) .e .e)) (.n (some Nk) (.n (some RQ) .e .e) .e)))) (.n none (.n (some Gj) (.n (some Jp) (.n (some PU) (.n (some U4) .e .e) (.n (some I5) .e .e)) (.n (some bM) (.n (some Lc) .e .e) .e)) (.n (some PS) (.n (some Ky) .e .e) (.n (some La) (.n (some CG) .e .e) .e))) (.n (some U1) (.n none (.n (some Ju) (.n (some Hr) .e .e) .e) .e) (.n none (.n (some DZ) .e (.n (some Gm) .e .e)) (.n (some S9) (.n (some JK) .e .e) .e))))))
theorem KZ : T.get F 10 = some Gj := by kernel_rfl
theorem SC : T.get F 13 = some Oc := by kernel_rfl
theorem YP : T.get F 14 = some U1 := by kernel_rfl
theorem Pj : T.get F 17 = some Lh := by kernel_rfl
theorem Oo : T.get F 18 = some Jp := by kernel_rfl
theorem Om : T.get F 19 = some Jo := by kernel_rfl
theorem P9 : T.get F 21 = some Le := by kernel_rfl
theorem kX : T.get F 25 = some Nq := by kernel_rfl
theorem UO : T.get F 26 = some PS := by kernel_rfl
theorem fM : T.get F 29 = some Yw := by kernel_rfl
theorem vS : T.get F 31 = some RP := by kernel_rfl
theorem Py : T.get F 32 = some Lr := by kernel_rfl
theorem lu : T.get F 33 = some OQ := by kernel_rfl
theorem UY : T.get F 34 = some PU := by kernel_rfl
theorem MN : T.get F 35 = some PO := by kernel_rfl
theorem Sj : T.get F 37 = some OT := by kernel_rfl
theorem O1 : T.get F 38 = some Ju := by kernel_rfl
theorem Zh : T.get F 39 = some WV := by kernel_rfl
theorem Oi : T.get F 40 = some Js := by kernel_rfl
theorem Pn : T.get F 41 = some LX := by kernel_rfl
theorem Pm : T.get F 42 = some Ky := by kernel_rfl
theorem Ol : T.get F 43 = some Jj := by kernel_rfl
theorem Oy : T.get F 44 = some Jr := by kernel_rfl
theorem SV : T.get F 45 = some OZ := by kernel_rfl
theorem Ew : T.get F 46 = some DZ := by kernel_rfl
theorem O0 : T.get F 47 = some Jv := by kernel_rfl
theorem NI : T.get F 49 = some Ih := by kernel_rfl
theorem lZ : T.get F 50 = some bM := by kernel_rfl
theorem OI : T.get F 53 = some JX := by kernel_rfl
theorem SK : T.get F 56 = some Oe := by kernel_rfl
theorem Si : T.get F 57 = some OW := by kernel_rfl
theorem P6 : T.get F 58 = some La := by kernel_rfl
theorem Og : T.get F 59 = some Jm := by kernel_rfl
theorem RV : T.get F 60 = some Nk := by kernel_rfl
theorem QB : T.get F 61 = some LW := by kernel_rfl
theorem XJ : T.get F 62 = some S9 := by kernel_rfl
theorem QA : T.get F 63 = some LM := by kernel_rfl
theorem Ef : T.get F 64 = some DK := by kernel_rfl
theorem GK : T.get F 65 = some EI := by kernel_rfl
theorem YO : T.get F 66 = some U4 := by kernel_rfl
theorem Qw : T.get F 67 = some Nl := by kernel_rfl
theorem Lm : T.get F 70 = some Hr := by kernel_rfl
theorem Me : T.get F 71 = some Ii := by kernel_rfl
theorem Lp : T.get F 72 = some Ht := by kernel_rfl
theorem KO : T.get F 73 = some Gf := by kernel_rfl
theorem Pg : T.get F 77 = some LQ := by kernel_rfl
theorem Zr : T.get F 79 = some WS := by kernel_rfl
theorem VI : T.get F 81 = some Q9 := by kernel_rfl
theorem P7 : T.get F 82 = some Lc := by kernel_rfl
theorem SY : T.get F 83 = some OY := by kernel_rfl
theorem DX : T.get F 90 = some CG := by kernel_rfl
theorem OC : T.get F 91 = some I9 := by kernel_rfl
theorem V4 : T.get F 92 = some RQ := by kernel_rfl
theorem Yx : T.get F 93 = some U2 := by kernel_rfl
theorem N7 : T.get F 94 = some JK := by kernel_rfl
theorem V8 : T.get F 95 = some Qu := by kernel_rfl
theorem Eh : T.get F 96 = some DN := by kernel_rfl
theorem Ll : T.get F 97 = some IE := by kernel_rfl
theorem OB : T.get F 98 = some I5 := by kernel_rfl
theorem Mc : T.get F 99 = some Ig := by kernel_rfl
theorem Je : T.get F 100 = some F6 := by kernel_rfl
theorem Oj : T.get F 103 = some Jh := by kernel_rfl
theorem D6 : T.get F 108 = some Cb := by kernel_rfl
theorem OE : T.get F 109 = some JI := by kernel_rfl
theorem Jy : T.get F 110 = some Gm := by kernel_rfl
abbrev Fg (n : Nat) (a : AF) : Prop := sD Go.Proofs.Tryd.prog F n a
theorem WH : Fg 10 Gj := .one Proofs.Tryd.func10 (by kernel_rfl) Xj (by kernel_rfl) (by kernel_rfl)
theorem iF : Fg 13 Oc := .one Proofs.Tryd.func13 (by kernel_rfl) lF (by kernel_rfl) (by kernel_rfl)
theorem vT : Fg 14 U1 := .one Proofs.Tryd.func14 (by kernel_rfl) AAD (by kernel_rfl) (by kernel_rfl)
theorem Za : Fg 17 Lh := .one Proofs.Tryd.func17 (by kernel_rfl) iY (by kernel_rfl) (by kernel_rfl)
theorem ZJ : Fg 18 Jp := .one Proofs.Tryd.func18 (by kernel_rfl) dY (by kernel_rfl) (by kernel_rfl)
theorem ZN : Fg 19 Jo := .one Proofs.Tryd.func19 (by kernel_rfl) dK (by kernel_rfl) (by kernel_rfl)
theorem Zw : Fg 21 Le := .one Proofs.Tryd.func21 (by kernel_rfl) iZ (by kernel_rfl) (by kernel_rfl)
theorem dH : Fg 25 Nq := .one Proofs.Tryd.func25 (by kernel_rfl) kD (by kernel_rfl) (by kernel_rfl)
theorem ji : Fg 26 PS := .one Proofs.Tryd.func26 (by kernel_rfl) qA (by kernel_rfl) (by kernel_rfl)
theorem AAq : Fg 29 Yw := .one Proofs.Tryd.func29 (by kernel_rfl) ADA (by kernel_rfl) (by kernel_rfl)
theorem mJ : Fg 31 RP := .one Proofs.Tryd.func31 (by kernel_rfl) uI (by kernel_rfl) (by kernel_rfl)
theorem Zk : Fg 32 Lr := .one Proofs.Tryd.func32 (by kernel_rfl) jD (by kernel_rfl) (by kernel_rfl)
theorem iR : Fg 33 OQ := .one Proofs.Tryd.func33 (by kernel_rfl) lK (by kernel_rfl) (by kernel_rfl)
theorem jV : Fg 34 PU := .one Proofs.Tryd.func34 (by kernel_rfl) qJ (by kernel_rfl) (by kernel_rfl)
theorem lC : Fg 35 PO := .one Proofs.Tryd.func35 (by kernel_rfl) pY (by kernel_rfl) (by kernel_rfl)
theorem iM : Fg 37 OT := .one Proofs.Tryd.func37 (by kernel_rfl) nH (by kernel_rfl) (by kernel_rfl)
theorem ZK : Fg 38 Ju := .one Proofs.Tryd.func38 (by kernel_rfl) dO (by kernel_rfl) (by kernel_rfl)
theorem wX : Fg 39 WV := .one Proofs.Tryd.func39 (by kernel_rfl) ABZ (by kernel_rfl) (by kernel_rfl)
theorem ZO : Fg 40 Js := .one Proofs.Tryd.func40 (by kernel_rfl) dI (by kernel_rfl) (by kernel_rfl)
theorem aI : Fg 41 LX := .one Proofs.Tryd.func41 (by kernel_rfl) jA (by kernel_rfl) (by kernel_rfl)
theorem Z4 : Fg 42 Ky := .one Proofs.Tryd.func42 (by kernel_rfl) fO (by kernel_rfl) (by kernel_rfl)
theorem ZF : Fg 43 Jj := .one Proofs.Tryd.func43 (by kernel_rfl) dh (by kernel_rfl) (by kernel_rfl)
theorem ZP : Fg 44 Jr := .one Proofs.Tryd.func44 (by kernel_rfl) dN (by kernel_rfl) (by kernel_rfl)
theorem jE : Fg 45 OZ := .one Proofs.Tryd.func45 (by kernel_rfl) lS (by kernel_rfl) (by kernel_rfl)
theorem PZ : Fg 46 DZ := .one Proofs.Tryd.func46 (by kernel_rfl) Qo (by kernel_rfl) (by kernel_rfl)
theorem ZH : Fg 47 Jv := .one Proofs.Tryd.func47 (by kernel_rfl) dV (by kernel_rfl) (by kernel_rfl)
theorem Xm : Fg 49 Ih := .one Proofs.Tryd.func49 (by kernel_rfl) ZI (by kernel_rfl) (by kernel_rfl)
theorem ACm : Fg 50 bM := .one Proofs.Tryd.func50 (by kernel_rfl) AFm (by kernel_rfl) (by kernel_rfl)
theorem YX : Fg 53 JX := .one Proofs.Tryd.func53 (by kernel_rfl) Zp (by kernel_rfl) (by kernel_rfl)
theorem iq : Fg 56 Oe := .one Proofs.Tryd.func56 (by kernel_rfl) mF (by kernel_rfl) (by kernel_rfl)
theorem gK : Fg 57 OW := .one Proofs.Tryd.func57 (by kernel_rfl) mV (by kernel_rfl) (by kernel_rfl)
theorem aC : Fg 58 La := .one Proofs.Tryd.func58 (by kernel_rfl) fV (by kernel_rfl) (by kernel_rfl)
theorem ZM : Fg 59 Jm := .one Proofs.Tryd.func59 (by kernel_rfl) dQ (by kernel_rfl) (by kernel_rfl)
theorem dW : Fg 60 Nk := .one Proofs.Tryd.func60 (by kernel_rfl) kC (by kernel_rfl) (by kernel_rfl)
theorem Zx : Fg 61 LW := .one Proofs.Tryd.func61 (by kernel_rfl) iD (by kernel_rfl) (by kernel_rfl)
theorem qH : Fg 62 S9 := .one Proofs.Tryd.func62 (by kernel_rfl) wO (by kernel_rfl) (by kernel_rfl)
theorem Zy : Fg 63 LM := .one Proofs.Tryd.func63 (by kernel_rfl) jG (by kernel_rfl) (by kernel_rfl)
theorem O8 : Fg 64 DK := .one Proofs.Tryd.func64 (by kernel_rfl) QU (by kernel_rfl) (by kernel_rfl)
theorem RZ : Fg 65 EI := .one Proofs.Tryd.func65 (by kernel_rfl) TI (by kernel_rfl) (by kernel_rfl)
theorem vN : Fg 66 U4 := .one Proofs.Tryd.func66 (by kernel_rfl) AAN (by kernel_rfl) (by kernel_rfl)
theorem dZ : Fg 67 Nl := .one Proofs.Tryd.func67 (by kernel_rfl) ku (by kernel_rfl) (by kernel_rfl)
theorem Xe : Fg 70 Hr := .one Proofs.Tryd.func70 (by kernel_rfl) Ym (by kernel_rfl) (by kernel_rfl)
theorem Xl : Fg 71 Ii := .one Proofs.Tryd.func71 (by kernel_rfl) ZG (by kernel_rfl) (by kernel_rfl)
theorem XM : Fg 72 Ht := .one Proofs.Tryd.func72 (by kernel_rfl) Yi (by kernel_rfl) (by kernel_rfl)
theorem WL : Fg 73 Gf := .one Proofs.Tryd.func73 (by kernel_rfl) Xy (by kernel_rfl) (by kernel_rfl)
theorem aP : Fg 77 LQ := .one Proofs.Tryd.func77 (by kernel_rfl) iV (by kernel_rfl) (by kernel_rfl)
theorem xE : Fg 79 WS := .one Proofs.Tryd.func79 (by kernel_rfl) ABR (by kernel_rfl) (by kernel_rfl)
theorem lH : Fg 81 Q9 := .one Proofs.Tryd.func81 (by kernel_rfl) qx (by kernel_rfl) (by kernel_rfl)
theorem bH : Fg 82 Lc := .one Proofs.Tryd.func82 (by kernel_rfl) jB (by kernel_rfl) (by kernel_rfl)
theorem iJ : Fg 83 OY := .one Proofs.Tryd.func83 (by kernel_rfl) nD (by kernel_rfl) (by kernel_rfl)
theorem Kz : Fg 90 CG := .one Proofs.Tryd.func90 (by kernel_rfl) Nj (by kernel_rfl) (by kernel_rfl)
theorem Yb : Fg 91 I9 := .one Proofs.Tryd.func91 (by kernel_rfl) Ze (by kernel_rfl) (by kernel_rfl)
theorem lV : Fg 92 RQ := .one Proofs.Tryd.func92 (by kernel_rfl) uG (by kernel_rfl) (by kernel_rfl)
theorem rP : Fg 93 U2 := .one Proofs.Tryd.func93 (by kernel_rfl) zT (by kernel_rfl) (by kernel_rfl)
theorem YS : Fg 94 JK := .one Proofs.Tryd.func94 (by kernel_rfl) aO (by kernel_rfl) (by kernel_rfl)
theorem lM : Fg 95 Qu := .one Proofs.Tryd.func95 (by kernel_rfl) vw (by kernel_rfl) (by kernel_rfl)
theorem PE : Fg 96 DN := .one Proofs.Tryd.func96 (by kernel_rfl) QV (by kernel_rfl) (by kernel_rfl)
theorem XT : Fg 97 IE := .one Proofs.Tryd.func97 (by kernel_rfl) Yq (by kernel_rfl) (by kernel_rfl)
theorem YU : Fg 98 I5 := .one Proofs.Tryd.func98 (by kernel_rfl) bC (by kernel_rfl) (by kernel_rfl)
theorem X6 : Fg 99 Ig := .one Proofs.Tryd.func99 (by kernel_rfl) ZL (by kernel_rfl) (by kernel_rfl)
theorem Vr : Fg 100 F6 := .one Proofs.Tryd.func100 (by kernel_rfl) XZ (by kernel_rfl) (by kernel_rfl)
theorem ZX : Fg 103 Jh := .one Proofs.Tryd.func103 (by kernel_rfl) dA (by kernel_rfl) (by kernel_rfl)
theorem Nv : Fg 108 Cb := .one Proofs.Tryd.func108 (by kernel_rfl) OV (by kernel_rfl) (by kernel_rfl)
theorem Yv : Fg 109 JI := .one Proofs.Tryd.func109 (by kernel_rfl) Zg (by kernel_rfl) (by kernel_rfl)
theorem WI : Fg 110 Gm := .one Proofs.Tryd.func110 (by kernel_rfl) Xn (by kernel_rfl) (by kernel_rfl)
theorem all_good : T.All (fun p af => sD Go.Proofs.Tryd.prog F p.key af) F := (.n0 (.n0 (.n0 (.n0 (.n0 (.n1 mJ (.n1 Zy .e .e) (.n1 lM .e .e)) (.n1 ZH (.n1 xE .e .e) .e)) (.n0 (.n1 wX (.n1 Xl .e .e) (.n1 ZX .e .e)) .e)) (.n0 (.n1 ZN (.n1 lC (.n1 dZ .e .e) (.n1 X6 .e .e)) (.n0 (.n1 iJ .e .e) .e)) (.n0 (.n1 ZF .e .e) (.n1 ZM (.n1 Yb .e .e) .e)))) (.n0 (.n0 (.n1 Za (.n1 iR (.n1 RZ .e .e) (.n1 XT .e .e)) (.n1 Xm (.n1 lH .e .e) .e)) (.n1 dH (.n1 aI (.n1 WL .e .e) .e) (.n1 gK .e .e))) (.n1 iF (.n1 Zw (.n1 iM .e .e) (.n1 YX .e .e)) (.n1 AAq (.n1 jE (.n1 aP .e .e) (.n1 Yv .e .e)) (.n1 Zx (.n1 rP .e .e) .e))))) (.n0 (.n0 (.n0 (.n0 (.n1 Zk (.n1 O8 .e .e) (.n1 PE .e .e)) .e) (.n0 (.n1 ZO (.n1 XM .e .e) .e) (.n1 iq .e .e))) (.n0 (.n0 (.n0 .e (.n1 Vr .e .e)) .e) (.n0 (.n1 ZP .e (.n1 Nv .e .e)) (.n1 dW (.n1 lV .e .e) .e)))) (.n0 (.n1 WH (.n1 ZJ (.n1 jV (.n1 vN .e .e) (.n1 YU .e .e)) (.n1 ACm (.n1 bH .e .e) .e)) (.n1 ji (.n1 Z4 .e .e) (.n1 aC (.n1 Kz .e .e) .e))) (.n1 vT (.n0 (.n1 ZK (.n1 Xe .e .e) .e) .e) (.n0 (.n1 PZ .e (.n1 WI .e .e)) (.n1 qH (.n1 YS .e .e) .e))))))
theorem ALN : sH Go.Proofs.Tryd.prog F := .AMr (by kernel_rfl) all_good
end Go.RL
