/- Part of a proof: texts LQNm LQTr LQOk of the engine and what is proved with it; nothing is assumed. -/
import Derived.Test.YtibbhhkcjjeclaaDoorEngA
import Derived.Test.YtibbhhkcjjeclaaDoorEngF
import Derived.Test.YtibbhhkcjjeclaaDoorProg
set_option linter.unusedVariables false
set_option linter.unusedSimpArgs false
noncomputable section
namespace Go.RL
open Go.Ba
def q0 : P2 := .h
def q1 : P2 := .z q0
def q2 : P2 := .o q0
def q3 : P2 := .z q1
def q4 : P2 := .o q1
def q5 : P2 := .z q2
def q6 : P2 := .o q2
def q7 : P2 := .z q3
def q8 : P2 := .o q3
def q9 : P2 := .z q4
def q10 : P2 := .o q4
def q11 : P2 := .z q5
def q12 : P2 := .o q5
def q13 : P2 := .z q6
def q14 : P2 := .o q6
def q15 : P2 := .z q7
def q16 : P2 := .o q7
def q17 : P2 := .z q8
def q18 : P2 := .o q8
def q19 : P2 := .z q9
def q20 : P2 := .o q9
def q21 : P2 := .z q10
def q22 : P2 := .o q10
def q23 : P2 := .z q11
def q24 : P2 := .o q11
def q25 : P2 := .z q12
def q26 : P2 := .o q12
def q27 : P2 := .z q13
def q28 : P2 := .o q13
def q29 : P2 := .z q14
def q30 : P2 := .o q14
def q31 : P2 := .z q15
def q32 : P2 := .o q15
def q33 : P2 := .z q16
def q34 : P2 := .o q16
def q35 : P2 := .z q17
def q36 : P2 := .o q17
def q37 : P2 := .z q18
def q38 : P2 := .o q18
def q39 : P2 := .z q19
def q40 : P2 := .o q19
def q41 : P2 := .z q20
def q42 : P2 := .o q20
def q43 : P2 := .z q21
def q44 : P2 := .o q21
def q45 : P2 := .z q22
def q46 : P2 := .o q22
def q48 : P2 := .o q23
def q49 : P2 := .z q24
def q50 : P2 := .o q24
def q51 : P2 := .z q25
def q52 : P2 := .o q25
def q53 : P2 := .z q26
def q54 : P2 := .o q26
def q55 : P2 := .z q27
def q60 : P2 := .o q29
def q61 : P2 := .z q30
def q62 : P2 := .o q30
def q63 : P2 := .z q31
def q64 : P2 := .o q31
def q65 : P2 := .z q32
def q66 : P2 := .o q32
def q67 : P2 := .z q33
def q68 : P2 := .o q33
def q69 : P2 := .z q34
def q72 : P2 := .o q35
def q73 : P2 := .z q36
def q74 : P2 := .o q36
def q75 : P2 := .z q37
def q76 : P2 := .o q37
def q77 : P2 := .z q38
def q78 : P2 := .o q38
def q79 : P2 := .z q39
def q80 : P2 := .o q39
def q83 : P2 := .z q41
def q84 : P2 := .o q41
def q85 : P2 := .z q42
def q86 : P2 := .o q42
def q87 : P2 := .z q43
def q92 : P2 := .o q45
def q93 : P2 := .z q46
def q94 : P2 := .o q46
def q98 : P2 := .o q48
def AN5 : P2 := .z q54
def AOh : P2 := .o q54
def AOH : P2 := .z q55
def ARA : P2 := .z q64
def AP9 : P2 := .o q64
def AQ9 : P2 := .z q65
def AQq : P2 := .z q69
def AQD : P2 := .o q76
abbrev Yu : Nat := 10
abbrev Y0 : Nat := 13
abbrev nU : Nat := 14
abbrev Wy : Nat := 17
abbrev Vt : Nat := 18
abbrev EY : Nat := 19
abbrev WV : Nat := 21
abbrev SY : Nat := 25
abbrev VG : Nat := 26
abbrev Iw : Nat := 29
abbrev Jb : Nat := 31
abbrev Iy : Nat := 32
abbrev Y1 : Nat := 33
abbrev ay : Nat := 34
abbrev J8 : Nat := 35
abbrev Y5 : Nat := 37
abbrev Va : Nat := 38
abbrev rF : Nat := 39
abbrev Vj : Nat := 40
abbrev WW : Nat := 41
abbrev EI : Nat := 42
abbrev Pj : Nat := 43
abbrev PZ : Nat := 44
abbrev UK : Nat := 45
abbrev Dl : Nat := 46
abbrev Ia : Nat := 47
abbrev OJ : Nat := 49
abbrev I4 : Nat := 50
abbrev Uj : Nat := 53
abbrev UL : Nat := 56
abbrev UU : Nat := 57
abbrev Ql : Nat := 58
abbrev Vy : Nat := 59
abbrev YD : Nat := 60
abbrev Wx : Nat := 61
abbrev jP : Nat := 62
abbrev XA : Nat := 63
abbrev JF : Nat := 64
abbrev MQ : Nat := 65
abbrev OC : Nat := 66
abbrev Bg : Nat := 67
abbrev DX : Nat := 70
abbrev OA : Nat := 71
abbrev Rj : Nat := 72
abbrev D5 : Nat := 73
abbrev Wl : Nat := 77
abbrev jG : Nat := 79
abbrev F6 : Nat := 81
abbrev EJ : Nat := 82
abbrev UY : Nat := 83
abbrev Dh : Nat := 90
abbrev Og : Nat := 91
abbrev Sr : Nat := 92
abbrev nX : Nat := 93
abbrev O4 : Nat := 94
abbrev XV : Nat := 95
abbrev Et : Nat := 96
abbrev Aj : Nat := 97
abbrev DT : Nat := 98
abbrev Ap : Nat := 99
abbrev QH : Nat := 100
abbrev Pn : Nat := 103
abbrev Hl : Nat := 108
abbrev Uh : Nat := 109
abbrev Qs : Nat := 110
end Go.RL
namespace Go.RL
open Go.Ba
set_option maxRecDepth 100000
abbrev tr (l : List (Nat × Nat)) (d : Bool) (o : AFs) (g : Nat) (f : Func) : Option AF := trF Go.Proofs.Tryd.prog (inR l) d o g f
abbrev Qg := tr [(21,21),(23,34),(36,39),(41,51),(56,76),(81,113),(115,134)] false [] 0 Proofs.Tryd.f10
def Gn := Bo Qg
theorem X7 : Qg = some Gn := Ak (by kernel_rfl)
abbrev ZA := tr [(9,12),(14,17)] false [] 0 Proofs.Tryd.f13
def Ob := Bo ZA
theorem lM : ZA = some Ob := Ak (by kernel_rfl)
abbrev oK := tr [(13,14),(16,18),(23,24),(37,39),(41,41),(62,72),(77,78),(87,87),(89,93),(95,96)] false [(8,WR 14),(13,WR 9),(14,WR 13),(21,WR 9)] 0 Proofs.Tryd.f14
def U4 := Bo oK
theorem AAJ : oK = some U4 := Ak (by kernel_rfl)
abbrev WS := tr [(11,11),(28,52),(54,55)] false [(1,WR 12)] 0 Proofs.Tryd.f17
def LY := Bo WS
theorem gV : WS = some LY := Ak (by kernel_rfl)
abbrev VP := tr [(3,3),(5,9)] false [] 0 Proofs.Tryd.f18
def Jq := Bo VP
theorem dQ : VP = some Jq := Ak (by kernel_rfl)
abbrev Vk := tr [(9,9),(11,22),(24,24),(31,31)] false [(6,[(0,.plain),(1,.plain),(2,.plain),(4,.plain),(5,.plain),(3,.plain),(6,.wr),(7,.wr)])] 0 Proofs.Tryd.f19
def Jv := Bo Vk
theorem dB : Vk = some Jv := Ak (by kernel_rfl)
abbrev Wj := tr [(8,8),(10,21)] false [] 0 Proofs.Tryd.f21
def LK := Bo Wj
theorem iJ : Wj = some LK := Ak (by kernel_rfl)
abbrev X3 := tr [(3,25)] false [] 0 Proofs.Tryd.f25
def Ns := Bo X3
theorem jQ : X3 = some Ns := Ak (by kernel_rfl)
abbrev ak := tr [(6,6),(11,11),(16,25),(30,32),(43,45),(47,54)] false [(8,WR 11)] 0 Proofs.Tryd.f26
def PV := Bo ak
theorem qI : ak = some PV := Ak (by kernel_rfl)
abbrev xW := tr [(1,1)] false [] 0 Proofs.Tryd.f29
def YP := Bo xW
theorem AEC : xW = some YP := Ak (by kernel_rfl)
abbrev fG := tr [(5,7)] false [] 0 Proofs.Tryd.f31
def Qq := Bo fG
theorem vJ : fG = some Qq := Ak (by kernel_rfl)
abbrev XB := tr [(5,10),(12,15)] false [] 0 Proofs.Tryd.f32
def LU := Bo XB
theorem iF : XB = some LU := Ak (by kernel_rfl)
abbrev ZE := tr [(7,37)] false [] 0 Proofs.Tryd.f33
def Oa := Bo ZE
theorem lX : ZE = some Oa := Ak (by kernel_rfl)
abbrev aG := tr [(3,4),(6,9)] false [] 0 Proofs.Tryd.f34
def PO := Bo aG
theorem pV : aG = some PO := Ak (by kernel_rfl)
abbrev Z8 := tr [(3,8)] false [] 0 Proofs.Tryd.f35
def PS := Bo Z8
theorem qB : Z8 = some PS := Ak (by kernel_rfl)
abbrev Y3 := tr [(13,56),(58,59),(64,67),(69,71),(76,80),(82,84),(89,104),(106,108),(113,125),(127,128),(133,137),(139,139)] false [] 0 Proofs.Tryd.f37
def OU := Bo Y3
theorem l7 : Y3 = some OU := Ak (by kernel_rfl)
abbrev Vp := tr [(9,27),(29,29),(34,47),(49,80),(82,82),(87,88),(95,96)] false [(15,WR 6)] 0 Proofs.Tryd.f38
def Jm := Bo Vp
theorem dY : Vp = some Jm := Ak (by kernel_rfl)
abbrev qw := tr [(6,9),(14,15),(23,24)] false [(5,WR 8)] 0 Proofs.Tryd.f39
def XE := Bo qw
theorem ABy : qw = some XE := Ak (by kernel_rfl)
abbrev VY := tr [(10,10),(13,14),(18,18),(21,31),(33,49),(51,59),(61,62),(64,66),(71,77),(79,88),(90,91),(96,105),(107,127),(129,129)] false [] 0 Proofs.Tryd.f40
def Jr := Bo VY
theorem dW : VY = some Jr := Ak (by kernel_rfl)
abbrev Wi := tr [(14,14),(16,16),(21,22),(32,32),(41,41),(46,47),(62,69),(71,72),(77,85),(87,87)] false [(4,WR 9),(7,WR 8),(12,opp [0,1,2,3,4,5,6,7,8,14,9,10,11,12,13,15,16,17])] 0 Proofs.Tryd.f41
def Lu := Bo Wi
theorem gZ : Wi = some Lu := Ak (by kernel_rfl)
abbrev XG := tr [(8,8),(10,26)] false [] 0 Proofs.Tryd.f42
def MB := Bo XG
theorem gB : XG = some MB := Ak (by kernel_rfl)
abbrev Ve := tr [(10,10),(14,14),(17,22),(27,40),(44,45)] false [(8,WR 5)] 0 Proofs.Tryd.f43
def Jh := Bo Ve
theorem dF : Ve = some Jh := Ak (by kernel_rfl)
abbrev V7 := tr [(8,8),(13,17),(19,21)] false [] 0 Proofs.Tryd.f44
def Jp := Bo V7
theorem dU : V7 = some Jp := Ak (by kernel_rfl)
abbrev Y7 := tr [(5,30)] false [] 0 Proofs.Tryd.f45
def OO := Bo Y7
theorem nC : Y7 = some OO := Ak (by kernel_rfl)
abbrev Jf := tr [(5,8)] false [] 0 Proofs.Tryd.f46
def DY := Bo Jf
theorem Qx : Jf = some DY := Ak (by kernel_rfl)
abbrev WC := tr [(7,7),(13,16),(18,20),(22,29),(31,31)] false [] 0 Proofs.Tryd.f47
def Jt := Bo WC
theorem dZ : WC = some Jt := Ak (by kernel_rfl)
abbrev Ti := tr [(8,19),(41,58),(86,106),(108,123),(125,140),(142,146)] false [(4,WR 11),(6,WR 10),(10,WR 13),(11,WR 15)] 0 Proofs.Tryd.f49
def Ij := Bo Ti
theorem ZW : Ti = some Ij := Ak (by kernel_rfl)
abbrev ABV := tr [(3,4)] false [] 0 Proofs.Tryd.f50
def bI := Bo ABV
theorem AFt : ABV = some bI := Ak (by kernel_rfl)
abbrev Ue := tr [(12,12),(16,16),(19,24),(29,48),(52,53)] false [(8,WR 5)] 0 Proofs.Tryd.f53
def JD := Bo Ue
theorem Z7 : Ue = some JD := Ak (by kernel_rfl)
abbrev ZC := tr [(3,8)] false [] 0 Proofs.Tryd.f56
def OW := Bo ZC
theorem lJ : ZC = some OW := Ak (by kernel_rfl)
abbrev Y9 := tr [(9,29),(31,31),(36,47),(49,50),(55,72),(74,74),(79,83),(85,86)] false [] 0 Proofs.Tryd.f57
def OT := Bo Y9
theorem l9 : Y9 = some OT := Ak (by kernel_rfl)
abbrev WU := tr [(8,47),(49,49),(54,70),(72,75),(80,107),(109,111)] false [] 0 Proofs.Tryd.f58
def LJ := Bo WU
theorem gG : WU = some LJ := Ak (by kernel_rfl)
abbrev V5 := tr [(13,27),(32,34),(36,37),(42,45),(47,48),(53,56),(58,59),(64,88),(90,91),(96,106),(108,108)] false [] 0 Proofs.Tryd.f59
def Jw := Bo V5
theorem dV : V5 = some Jw := Ak (by kernel_rfl)
abbrev Xf := tr [(6,8),(10,13),(15,17)] false [(6,WR 12)] 0 Proofs.Tryd.f60
def Nu := Bo Xf
theorem jv : Xf = some Nu := Ak (by kernel_rfl)
abbrev WQ := tr [(5,5)] false [] 0 Proofs.Tryd.f61
def Lp := Bo WQ
theorem iw : WQ = some Lp := Ak (by kernel_rfl)
abbrev jo := tr [(5,6),(10,10),(29,31),(35,35),(54,54)] false [(4,WR 18),(10,WR 18)] 0 Proofs.Tryd.f62
def TA := Bo jo
theorem wR : jo = some TA := Ak (by kernel_rfl)
abbrev Wp := tr [(8,8),(13,17),(19,22)] false [] 0 Proofs.Tryd.f63
def Ll := Bo Wp
theorem iq : Wp = some Ll := Ak (by kernel_rfl)
abbrev JA := tr [(6,9),(11,11),(15,15),(25,25)] false [(6,WR 9)] 0 Proofs.Tryd.f64
def DK := Bo JA
theorem QV : JA = some DK := Ak (by kernel_rfl)
abbrev MW := tr [(6,6),(10,15),(17,18)] false [] 0 Proofs.Tryd.f65
def EG := Bo MW
theorem TI : MW = some EG := Ak (by kernel_rfl)
abbrev pF := tr [(3,22)] false [] 0 Proofs.Tryd.f66
def Uy := Bo pF
theorem zW : pF = some Uy := Ak (by kernel_rfl)
abbrev YG := tr [(3,22)] false [] 0 Proofs.Tryd.f67
def Nl := Bo YG
theorem ji : YG = some Nl := Ak (by kernel_rfl)
abbrev Rw := tr [(18,24),(26,33),(35,36),(62,62),(67,69),(86,86),(107,108),(113,115),(151,151),(153,162)] false [(6,WR 18),(8,WR 9),(14,opp [0,1,2,3,4,5,6,7,8,9,10,11,16,12,13,14,15,17,18]),(17,[(0,.plain),(1,.plain),(2,.plain),(3,.plain),(4,.plain),(5,.plain),(6,.plain),(7,.plain),(8,.plain),(9,.plain),(10,.plain),(11,.plain),(12,.wr)]),(18,WR 8),(23,opp [0,1,2,3,4,5,6,7,8,9,10,11,16,12,13,14,15,17,18]),(24,[(0,.plain),(1,.plain),(2,.plain),(3,.plain),(4,.plain),(5,.plain),(6,.plain),(7,.plain),(8,.plain),(9,.plain),(10,.plain),(11,.plain),(12,.wr)]),(25,WR 8)] 0 Proofs.Tryd.f70
def Hr := Bo Rw
theorem YR : Rw = some Hr := Ak (by kernel_rfl)
abbrev Tn := tr [] false [(1,opp [0,1,3,4,2,5,6,7])] 0 Proofs.Tryd.f71
def Ih := Bo Tn
theorem ZG : Tn = some Ih := Ak (by kernel_rfl)
abbrev Rx := tr [(12,12),(15,15),(17,19),(22,26),(28,32),(34,38),(40,40),(65,70),(79,79),(81,97),(99,112),(114,125),(127,138),(140,186),(188,193),(195,200),(202,208),(210,219),(221,225)] false [(10,WR 24),(13,WR 9)] 0 Proofs.Tryd.f72
def IG := Bo Rx
theorem Yb : Rx = some IG := Ak (by kernel_rfl)
abbrev Qb := tr [(7,13),(15,16)] false [] 0 Proofs.Tryd.f73
def Gl := Bo Qb
theorem YB : Qb = some Gl := Ak (by kernel_rfl)
abbrev Wn := tr [(8,10),(15,30)] false [(3,WR 4)] 0 Proofs.Tryd.f77
def Lm := Bo Wn
theorem gY : Wn = some Lm := Ak (by kernel_rfl)
abbrev ug := tr [(1,1)] false [] 0 Proofs.Tryd.f79
def WT := Bo ug
theorem ACl : ug = some WT := Ak (by kernel_rfl)
abbrev eY := tr [(1,1)] false [] 0 Proofs.Tryd.f81
def Qm := Bo eY
theorem sH : eY = some Qm := Ak (by kernel_rfl)
abbrev WM := tr [] false [(1,WR 12)] 0 Proofs.Tryd.f82
def Lj := Bo WM
theorem iW : WM = some Lj := Ak (by kernel_rfl)
abbrev Y2 := tr [(3,5)] false [] 0 Proofs.Tryd.f83
def Oc := Bo Y2
theorem lH : Y2 = some Oc := Ak (by kernel_rfl)
abbrev F5 := tr [(5,8)] false [] 0 Proofs.Tryd.f90
def CJ := Bo F5
theorem NW : F5 = some CJ := Ak (by kernel_rfl)
abbrev Ug := tr [(3,5)] false [] 0 Proofs.Tryd.f91
def I5 := Bo Ug
theorem Zc : Ug = some I5 := Ak (by kernel_rfl)
abbrev eH := tr [(3,10)] false [] 0 Proofs.Tryd.f92
def RF := Bo eH
theorem rP : eH = some RF := Ak (by kernel_rfl)
abbrev oL := tr [(3,6)] false [] 0 Proofs.Tryd.f93
def U6 := Bo oL
theorem AAD : oL = some U6 := Ak (by kernel_rfl)
abbrev Ul := tr [(7,11),(13,17),(19,23),(25,29),(31,35),(37,39),(41,44)] false [] 0 Proofs.Tryd.f94
def JJ := Bo Ul
theorem ah : Ul = some JJ := Ak (by kernel_rfl)
abbrev fD := tr [(10,13),(22,22),(31,31),(33,38),(48,48),(50,52)] false [(3,WR 8),(5,WR 8),(8,WR 10)] 0 Proofs.Tryd.f95
def Q7 := Bo fD
theorem rW : fD = some Q7 := Ak (by kernel_rfl)
abbrev JC := tr [(3,3),(5,7)] false [] 0 Proofs.Tryd.f96
def DN := Bo JC
theorem QT : JC = some DN := Ak (by kernel_rfl)
abbrev Ru := tr [] false [(1,WR 11),(2,WR 12)] 0 Proofs.Tryd.f97
def Hu := Bo Ru
theorem Yn : Ru = some Hu := Ak (by kernel_rfl)
abbrev Ud := tr [(6,12),(14,31)] false [] 0 Proofs.Tryd.f98
def JH := Bo Ud
theorem aN : Ud = some JH := Ak (by kernel_rfl)
abbrev UE := tr [(9,12),(14,21),(46,54)] false [(5,WR 24)] 0 Proofs.Tryd.f99
def Ik := Bo UE
theorem ZT : UE = some Ik := Ak (by kernel_rfl)
abbrev QE := tr [(13,13),(16,16),(32,32),(67,76),(106,106),(117,131),(133,133),(155,156),(167,172),(174,194),(196,205)] false [(3,WR 15),(5,WR 34),(11,WR 12),(12,WR 17),(14,WR 12),(17,WR 12),(18,opp [0,1,2,3,5,6,7,4,8,9,10]),(21,WR 12)] 0 Proofs.Tryd.f100
def F7 := Bo QE
theorem XQ : QE = some F7 := Ak (by kernel_rfl)
abbrev Vf := tr [(8,17)] false [] 0 Proofs.Tryd.f103
def Js := Bo Vf
theorem dN : Vf = some Js := Ak (by kernel_rfl)
abbrev Gv := tr [(6,6),(10,15),(17,18)] false [] 0 Proofs.Tryd.f108
def Cb := Bo Gv
theorem OQ : Gv = some Cb := Ak (by kernel_rfl)
abbrev Uu := tr [(8,8),(11,16),(21,25),(27,28)] false [] 0 Proofs.Tryd.f109
def JM := Bo Uu
theorem bG : Uu = some JM := Ak (by kernel_rfl)
abbrev Qy := tr [(10,11),(13,17),(44,45)] false [(3,WR 17),(4,WR 12),(6,opp [0,1,2,3,4,5,7,6,8,9,10,11,12]),(7,WR 18)] 0 Proofs.Tryd.f110
def Gm := Bo Qy
theorem Xi : Qy = some Gm := Ak (by kernel_rfl)
def F : T AF := (.n none (.n none (.n none (.n none (.n none (.n (some Qq) (.n (some Ll) .e .e) (.n (some Q7) .e .e)) (.n (some Jt) (.n (some WT) .e .e) .e)) (.n none (.n (some XE) (.n (some Ih) .e .e) (.n (some Js) .e .e)) .e)) (.n none (.n (some Jv) (.n (some PS) (.n (some Nl) .e .e) (.n (some Ik) .e .e)) (.n none (.n (some Oc) .e .e) .e)) (.n none (.n (some Jh) .e .e) (.n (some Jw) (.n (some I5) .e .e) .e)))) (.n none (.n none (.n (some LY) (.n (some Oa) (.n (some EG) .e .e) (.n (some Hu) .e .e)) (.n (some Ij) (.n (some Qm) .e .e) .e)) (.n (some Ns) (.n (some Lu) (.n (some Gl) .e .e) .e) (.n (some OT) .e .e))) (.n (some Ob) (.n (some LK) (.n (some OU) .e .e) (.n (some JD) .e .e)) (.n (some YP) (.n (some OO) (.n (some Lm) .e .e) (.n (some JM) .e .e)) (.n (some Lp) (.n (some U6) .e .e) .e))))) (.n none (.n none (.n none (.n none (.n (some LU) (.n (some DK) .e .e) (.n (some DN) .e .e)) .e) (.n none (.n (some Jr) (.n (some IG) .e .e) .e) (.n (some OW) .e .e))) (.n none (.n none (.n none .e (.n (some F7) .e .e)) .e) (.n none (.n (some Jp) .e (.n (some Cb) .e .e)) (.n (some Nu) (.n (some RF) .e .e) .e)))) (.n none (.n (some Gn) (.n (some Jq) (.n (some PO) (.n (some Uy) .e .e) (.n (some JH) .e .e)) (.n (some bI) (.n (some Lj) .e .e) .e)) (.n (some PV) (.n (some MB) .e .e) (.n (some LJ) (.n (some CJ) .e .e) .e))) (.n (some U4) (.n none (.n (some Jm) (.n (some Hr) .e .e) .e) .e) (.n none (.n (some DY) .e (.n (some Gm) .e .e)) (.n (some TA) (.n (some JJ) .e .e) .e))))))
theorem Jy : T.get F 10 = some Gn := by kernel_rfl
theorem SQ : T.get F 13 = some Ob := by kernel_rfl
theorem Yh : T.get F 14 = some U4 := by kernel_rfl
theorem Px : T.get F 17 = some LY := by kernel_rfl
theorem Ou : T.get F 18 = some Jq := by kernel_rfl
theorem O1 : T.get F 19 = some Jv := by kernel_rfl
theorem Pv : T.get F 21 = some LK := by kernel_rfl
theorem jZ : T.get F 25 = some Ns := by kernel_rfl
theorem UJ : T.get F 26 = some PV := by kernel_rfl
theorem gJ : T.get F 29 = some YP := by kernel_rfl
theorem uX : T.get F 31 = some Qq := by kernel_rfl
theorem Pq : T.get F 32 = some LU := by kernel_rfl
theorem lN : T.get F 33 = some Oa := by kernel_rfl
theorem UR : T.get F 34 = some PO := by kernel_rfl
theorem MI : T.get F 35 = some PS := by kernel_rfl
theorem SH : T.get F 37 = some OU := by kernel_rfl
theorem Oy : T.get F 38 = some Jm := by kernel_rfl
theorem Zv : T.get F 39 = some XE := by kernel_rfl
theorem O3 : T.get F 40 = some Jr := by kernel_rfl
theorem P9 : T.get F 41 = some Lu := by kernel_rfl
theorem P5 : T.get F 42 = some MB := by kernel_rfl
theorem Oq : T.get F 43 = some Jh := by kernel_rfl
theorem Ol : T.get F 44 = some Jp := by kernel_rfl
theorem SS : T.get F 45 = some OO := by kernel_rfl
theorem Ep : T.get F 46 = some DY := by kernel_rfl
theorem O0 : T.get F 47 = some Jt := by kernel_rfl
theorem NC : T.get F 49 = some Ij := by kernel_rfl
theorem lK : T.get F 50 = some bI := by kernel_rfl
theorem OE : T.get F 53 = some JD := by kernel_rfl
theorem Sl : T.get F 56 = some OW := by kernel_rfl
theorem SN : T.get F 57 = some OT := by kernel_rfl
theorem Pg : T.get F 58 = some LJ := by kernel_rfl
theorem Ot : T.get F 59 = some Jw := by kernel_rfl
theorem RG : T.get F 60 = some Nu := by kernel_rfl
theorem Pz : T.get F 61 = some Lp := by kernel_rfl
theorem XJ : T.get F 62 = some TA := by kernel_rfl
theorem QA : T.get F 63 = some Ll := by kernel_rfl
theorem Ef : T.get F 64 = some DK := by kernel_rfl
theorem GR : T.get F 65 = some EG := by kernel_rfl
theorem Yj : T.get F 66 = some Uy := by kernel_rfl
theorem Qj : T.get F 67 = some Nl := by kernel_rfl
theorem LQ : T.get F 70 = some Hr := by kernel_rfl
theorem NG : T.get F 71 = some Ih := by kernel_rfl
theorem La : T.get F 72 = some IG := by kernel_rfl
theorem J7 : T.get F 73 = some Gl := by kernel_rfl
theorem PW : T.get F 77 = some Lm := by kernel_rfl
theorem Z4 : T.get F 79 = some WT := by kernel_rfl
theorem VR : T.get F 81 = some Qm := by kernel_rfl
theorem PX : T.get F 82 = some Lj := by kernel_rfl
theorem SK : T.get F 83 = some Oc := by kernel_rfl
theorem DW : T.get F 90 = some CJ := by kernel_rfl
theorem Ny : T.get F 91 = some I5 := by kernel_rfl
theorem VZ : T.get F 92 = some RF := by kernel_rfl
theorem Yk : T.get F 93 = some U6 := by kernel_rfl
theorem OL : T.get F 94 = some JJ := by kernel_rfl
theorem WB : T.get F 95 = some Q7 := by kernel_rfl
theorem Eh : T.get F 96 = some DN := by kernel_rfl
theorem Le : T.get F 97 = some Hu := by kernel_rfl
theorem OB : T.get F 98 = some JH := by kernel_rfl
theorem NK : T.get F 99 = some Ik := by kernel_rfl
theorem JY : T.get F 100 = some F7 := by kernel_rfl
theorem Oi : T.get F 103 = some Js := by kernel_rfl
theorem D6 : T.get F 108 = some Cb := by kernel_rfl
theorem OI : T.get F 109 = some JM := by kernel_rfl
theorem KF : T.get F 110 = some Gm := by kernel_rfl
abbrev Fg (n : Nat) (a : AF) : Prop := rH Go.Proofs.Tryd.prog F n a
theorem WH : Fg 10 Gn := .one Proofs.Tryd.func10 (by kernel_rfl) X7 (by kernel_rfl) (by kernel_rfl)
theorem jA : Fg 13 Ob := .one Proofs.Tryd.func13 (by kernel_rfl) lM (by kernel_rfl) (by kernel_rfl)
theorem sG : Fg 14 U4 := .one Proofs.Tryd.func14 (by kernel_rfl) AAJ (by kernel_rfl) (by kernel_rfl)
theorem aV : Fg 17 LY := .one Proofs.Tryd.func17 (by kernel_rfl) gV (by kernel_rfl) (by kernel_rfl)
theorem ZN : Fg 18 Jq := .one Proofs.Tryd.func18 (by kernel_rfl) dQ (by kernel_rfl) (by kernel_rfl)
theorem ZV : Fg 19 Jv := .one Proofs.Tryd.func19 (by kernel_rfl) dB (by kernel_rfl) (by kernel_rfl)
theorem Zh : Fg 21 LK := .one Proofs.Tryd.func21 (by kernel_rfl) iJ (by kernel_rfl) (by kernel_rfl)
theorem dM : Fg 25 Ns := .one Proofs.Tryd.func25 (by kernel_rfl) jQ (by kernel_rfl) (by kernel_rfl)
theorem kM : Fg 26 PV := .one Proofs.Tryd.func26 (by kernel_rfl) qI (by kernel_rfl) (by kernel_rfl)
theorem AAm : Fg 29 YP := .one Proofs.Tryd.func29 (by kernel_rfl) AEC (by kernel_rfl) (by kernel_rfl)
theorem lQ : Fg 31 Qq := .one Proofs.Tryd.func31 (by kernel_rfl) vJ (by kernel_rfl) (by kernel_rfl)
theorem Za : Fg 32 LU := .one Proofs.Tryd.func32 (by kernel_rfl) iF (by kernel_rfl) (by kernel_rfl)
theorem jD : Fg 33 Oa := .one Proofs.Tryd.func33 (by kernel_rfl) lX (by kernel_rfl) (by kernel_rfl)
theorem jy : Fg 34 PO := .one Proofs.Tryd.func34 (by kernel_rfl) pV (by kernel_rfl) (by kernel_rfl)
theorem kQ : Fg 35 PS := .one Proofs.Tryd.func35 (by kernel_rfl) qB (by kernel_rfl) (by kernel_rfl)
theorem gX : Fg 37 OU := .one Proofs.Tryd.func37 (by kernel_rfl) l7 (by kernel_rfl) (by kernel_rfl)
theorem ZR : Fg 38 Jm := .one Proofs.Tryd.func38 (by kernel_rfl) dY (by kernel_rfl) (by kernel_rfl)
theorem wM : Fg 39 XE := .one Proofs.Tryd.func39 (by kernel_rfl) ABy (by kernel_rfl) (by kernel_rfl)
theorem ZQ : Fg 40 Jr := .one Proofs.Tryd.func40 (by kernel_rfl) dW (by kernel_rfl) (by kernel_rfl)
theorem Zu : Fg 41 Lu := .one Proofs.Tryd.func41 (by kernel_rfl) gZ (by kernel_rfl) (by kernel_rfl)
theorem Zb : Fg 42 MB := .one Proofs.Tryd.func42 (by kernel_rfl) gB (by kernel_rfl) (by kernel_rfl)
theorem ZK : Fg 43 Jh := .one Proofs.Tryd.func43 (by kernel_rfl) dF (by kernel_rfl) (by kernel_rfl)
theorem ZP : Fg 44 Jp := .one Proofs.Tryd.func44 (by kernel_rfl) dU (by kernel_rfl) (by kernel_rfl)
theorem fO : Fg 45 OO := .one Proofs.Tryd.func45 (by kernel_rfl) nC (by kernel_rfl) (by kernel_rfl)
theorem P6 : Fg 46 DY := .one Proofs.Tryd.func46 (by kernel_rfl) Qx (by kernel_rfl) (by kernel_rfl)
theorem ZM : Fg 47 Jt := .one Proofs.Tryd.func47 (by kernel_rfl) dZ (by kernel_rfl) (by kernel_rfl)
theorem Xm : Fg 49 Ij := .one Proofs.Tryd.func49 (by kernel_rfl) ZW (by kernel_rfl) (by kernel_rfl)
theorem ABk : Fg 50 bI := .one Proofs.Tryd.func50 (by kernel_rfl) AFt (by kernel_rfl) (by kernel_rfl)
theorem YT : Fg 53 JD := .one Proofs.Tryd.func53 (by kernel_rfl) Z7 (by kernel_rfl) (by kernel_rfl)
theorem fM : Fg 56 OW := .one Proofs.Tryd.func56 (by kernel_rfl) lJ (by kernel_rfl) (by kernel_rfl)
theorem iy : Fg 57 OT := .one Proofs.Tryd.func57 (by kernel_rfl) l9 (by kernel_rfl) (by kernel_rfl)
theorem aH : Fg 58 LJ := .one Proofs.Tryd.func58 (by kernel_rfl) gG (by kernel_rfl) (by kernel_rfl)
theorem ZO : Fg 59 Jw := .one Proofs.Tryd.func59 (by kernel_rfl) dV (by kernel_rfl) (by kernel_rfl)
theorem dX : Fg 60 Nu := .one Proofs.Tryd.func60 (by kernel_rfl) jv (by kernel_rfl) (by kernel_rfl)
theorem aY : Fg 61 Lp := .one Proofs.Tryd.func61 (by kernel_rfl) iw (by kernel_rfl) (by kernel_rfl)
theorem qK : Fg 62 TA := .one Proofs.Tryd.func62 (by kernel_rfl) wR (by kernel_rfl) (by kernel_rfl)
theorem Zk : Fg 63 Ll := .one Proofs.Tryd.func63 (by kernel_rfl) iq (by kernel_rfl) (by kernel_rfl)
theorem O9 : Fg 64 DK := .one Proofs.Tryd.func64 (by kernel_rfl) QV (by kernel_rfl) (by kernel_rfl)
theorem RZ : Fg 65 EG := .one Proofs.Tryd.func65 (by kernel_rfl) TI (by kernel_rfl) (by kernel_rfl)
theorem vH : Fg 66 Uy := .one Proofs.Tryd.func66 (by kernel_rfl) zW (by kernel_rfl) (by kernel_rfl)
theorem dS : Fg 67 Nl := .one Proofs.Tryd.func67 (by kernel_rfl) ji (by kernel_rfl) (by kernel_rfl)
theorem XH : Fg 70 Hr := .one Proofs.Tryd.func70 (by kernel_rfl) YR (by kernel_rfl) (by kernel_rfl)
theorem Xj : Fg 71 Ih := .one Proofs.Tryd.func71 (by kernel_rfl) ZG (by kernel_rfl) (by kernel_rfl)
theorem XK : Fg 72 IG := .one Proofs.Tryd.func72 (by kernel_rfl) Yb (by kernel_rfl) (by kernel_rfl)
theorem WJ : Fg 73 Gl := .one Proofs.Tryd.func73 (by kernel_rfl) YB (by kernel_rfl) (by kernel_rfl)
theorem aQ : Fg 77 Lm := .one Proofs.Tryd.func77 (by kernel_rfl) gY (by kernel_rfl) (by kernel_rfl)
theorem wO : Fg 79 WT := .one Proofs.Tryd.func79 (by kernel_rfl) ACl (by kernel_rfl) (by kernel_rfl)
theorem mP : Fg 81 Qm := .one Proofs.Tryd.func81 (by kernel_rfl) sH (by kernel_rfl) (by kernel_rfl)
theorem Zr : Fg 82 Lj := .one Proofs.Tryd.func82 (by kernel_rfl) iW (by kernel_rfl) (by kernel_rfl)
theorem ig : Fg 83 Oc := .one Proofs.Tryd.func83 (by kernel_rfl) lH (by kernel_rfl) (by kernel_rfl)
theorem LX : Fg 90 CJ := .one Proofs.Tryd.func90 (by kernel_rfl) NW (by kernel_rfl) (by kernel_rfl)
theorem Yr : Fg 91 I5 := .one Proofs.Tryd.func91 (by kernel_rfl) Zc (by kernel_rfl) (by kernel_rfl)
theorem lI : Fg 92 RF := .one Proofs.Tryd.func92 (by kernel_rfl) rP (by kernel_rfl) (by kernel_rfl)
theorem tV : Fg 93 U6 := .one Proofs.Tryd.func93 (by kernel_rfl) AAD (by kernel_rfl) (by kernel_rfl)
theorem Yp : Fg 94 JJ := .one Proofs.Tryd.func94 (by kernel_rfl) ah (by kernel_rfl) (by kernel_rfl)
theorem lW : Fg 95 Q7 := .one Proofs.Tryd.func95 (by kernel_rfl) rW (by kernel_rfl) (by kernel_rfl)
theorem PD : Fg 96 DN := .one Proofs.Tryd.func96 (by kernel_rfl) QT (by kernel_rfl) (by kernel_rfl)
theorem XW : Fg 97 Hu := .one Proofs.Tryd.func97 (by kernel_rfl) Yn (by kernel_rfl) (by kernel_rfl)
theorem Ya : Fg 98 JH := .one Proofs.Tryd.func98 (by kernel_rfl) aN (by kernel_rfl) (by kernel_rfl)
theorem X6 : Fg 99 Ik := .one Proofs.Tryd.func99 (by kernel_rfl) ZT (by kernel_rfl) (by kernel_rfl)
theorem VJ : Fg 100 F7 := .one Proofs.Tryd.func100 (by kernel_rfl) XQ (by kernel_rfl) (by kernel_rfl)
theorem ZH : Fg 103 Js := .one Proofs.Tryd.func103 (by kernel_rfl) dN (by kernel_rfl) (by kernel_rfl)
theorem Nv : Fg 108 Cb := .one Proofs.Tryd.func108 (by kernel_rfl) OQ (by kernel_rfl) (by kernel_rfl)
theorem YW : Fg 109 JM := .one Proofs.Tryd.func109 (by kernel_rfl) bG (by kernel_rfl) (by kernel_rfl)
theorem WI : Fg 110 Gm := .one Proofs.Tryd.func110 (by kernel_rfl) Xi (by kernel_rfl) (by kernel_rfl)
theorem all_good : T.All (fun p af => rH Go.Proofs.Tryd.prog F p.key af) F := (.n0 (.n0 (.n0 (.n0 (.n0 (.n1 lQ (.n1 Zk .e .e) (.n1 lW .e .e)) (.n1 ZM (.n1 wO .e .e) .e)) (.n0 (.n1 wM (.n1 Xj .e .e) (.n1 ZH .e .e)) .e)) (.n0 (.n1 ZV (.n1 kQ (.n1 dS .e .e) (.n1 X6 .e .e)) (.n0 (.n1 ig .e .e) .e)) (.n0 (.n1 ZK .e .e) (.n1 ZO (.n1 Yr .e .e) .e)))) (.n0 (.n0 (.n1 aV (.n1 jD (.n1 RZ .e .e) (.n1 XW .e .e)) (.n1 Xm (.n1 mP .e .e) .e)) (.n1 dM (.n1 Zu (.n1 WJ .e .e) .e) (.n1 iy .e .e))) (.n1 jA (.n1 Zh (.n1 gX .e .e) (.n1 YT .e .e)) (.n1 AAm (.n1 fO (.n1 aQ .e .e) (.n1 YW .e .e)) (.n1 aY (.n1 tV .e .e) .e))))) (.n0 (.n0 (.n0 (.n0 (.n1 Za (.n1 O9 .e .e) (.n1 PD .e .e)) .e) (.n0 (.n1 ZQ (.n1 XK .e .e) .e) (.n1 fM .e .e))) (.n0 (.n0 (.n0 .e (.n1 VJ .e .e)) .e) (.n0 (.n1 ZP .e (.n1 Nv .e .e)) (.n1 dX (.n1 lI .e .e) .e)))) (.n0 (.n1 WH (.n1 ZN (.n1 jy (.n1 vH .e .e) (.n1 Ya .e .e)) (.n1 ABk (.n1 Zr .e .e) .e)) (.n1 kM (.n1 Zb .e .e) (.n1 aH (.n1 LX .e .e) .e))) (.n1 sG (.n0 (.n1 ZR (.n1 XH .e .e) .e) .e) (.n0 (.n1 P6 .e (.n1 WI .e .e)) (.n1 qK (.n1 Yp .e .e) .e))))))
theorem ALJ : uf Go.Proofs.Tryd.prog F := .ALa (by kernel_rfl) all_good
end Go.RL
