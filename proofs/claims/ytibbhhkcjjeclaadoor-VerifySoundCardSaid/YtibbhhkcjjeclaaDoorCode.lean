/- Part of a proof; nothing is assumed. -/
import Derived.Test.YtibbhhkcjjeclaaDoorEngA
import Derived.Test.YtibbhhkcjjeclaaDoorEngF
import Derived.Test.YtibbhhkcjjeclaaDoorProg
set_option linter.unusedVariables false
set_option linter.unusedSimpArgs false
noncomputable section
namespace Go.RL
open Go.Bv
def q0:P2:=.h
def q1:P2:=.z q0
def q2:P2:=.o q0
def q3:P2:=.z q1
def q4:P2:=.o q1
def q5:P2:=.z q2
def q6:P2:=.o q2
def q7:P2:=.z q3
def q8:P2:=.o q3
def q9:P2:=.z q4
def q10:P2:=.o q4
def q11:P2:=.z q5
def q12:P2:=.o q5
def q13:P2:=.z q6
def q14:P2:=.o q6
def q15:P2:=.z q7
def q16:P2:=.o q7
def q17:P2:=.z q8
def q18:P2:=.o q8
def q19:P2:=.z q9
def q20:P2:=.o q9
def q21:P2:=.z q10
def q22:P2:=.o q10
def q23:P2:=.z q11
def q24:P2:=.o q11
def q25:P2:=.z q12
def q26:P2:=.o q12
def q27:P2:=.z q13
def q28:P2:=.o q13
def q29:P2:=.z q14
def q30:P2:=.o q14
def q31:P2:=.z q15
def q32:P2:=.o q15
def q33:P2:=.z q16
def q34:P2:=.o q16
def q35:P2:=.z q17
def q36:P2:=.o q17
def q37:P2:=.z q18
def q38:P2:=.o q18
def q39:P2:=.z q19
def q40:P2:=.o q19
def q41:P2:=.z q20
def q42:P2:=.o q20
def q43:P2:=.z q21
def q44:P2:=.o q21
def q45:P2:=.z q22
def q46:P2:=.o q22
def q47:P2:=.z q23
def q48:P2:=.o q23
def q49:P2:=.z q24
def q50:P2:=.o q24
def q51:P2:=.z q25
def q52:P2:=.o q25
def q53:P2:=.z q26
def q54:P2:=.o q26
def q55:P2:=.z q27
def q56:P2:=.o q27
def q57:P2:=.z q28
def q59:P2:=.z q29
def q60:P2:=.o q29
def q61:P2:=.z q30
def q62:P2:=.o q30
def q63:P2:=.z q31
def q64:P2:=.o q31
def q65:P2:=.z q32
def q66:P2:=.o q32
def q67:P2:=.z q33
def q68:P2:=.o q33
def q69:P2:=.z q34
def q72:P2:=.o q35
def q73:P2:=.z q36
def q74:P2:=.o q36
def q75:P2:=.z q37
def q76:P2:=.o q37
def q77:P2:=.z q38
def q78:P2:=.o q38
def q80:P2:=.o q39
def q83:P2:=.z q41
def q84:P2:=.o q41
def q85:P2:=.z q42
def q86:P2:=.o q42
def q87:P2:=.z q43
def q89:P2:=.z q44
def q90:P2:=.o q44
def q92:P2:=.o q45
def q93:P2:=.z q46
def q94:P2:=.o q46
def q98:P2:=.o q48
def ARh:P2:=.o q51
def ARX:P2:=.z q52
def ARu:P2:=.o q52
def ATb:P2:=.z q54
def AUK:P2:=.o q54
def ATT:P2:=.z q55
def AWG:P2:=.z q57
def AVR:P2:=.o q59
def AWN:P2:=.z q60
def AVf:P2:=.o q60
def AV7:P2:=.z q64
def AVj:P2:=.o q64
def AVV:P2:=.z q65
def AVi:P2:=.z q69
def AVY:P2:=.o q76
def AVN:P2:=.o q89
def AVp:P2:=.o q90
def AVA:P2:=.z AWG
abbrev fD:Nat:=7
abbrev jm:Nat:=13
abbrev mF:Nat:=14
abbrev aU:Nat:=17
abbrev ZT:Nat:=18
abbrev Dh:Nat:=19
abbrev au:Nat:=21
abbrev WT:Nat:=25
abbrev VI:Nat:=26
abbrev ZB:Nat:=28
abbrev KN:Nat:=29
abbrev U0:Nat:=30
abbrev NG:Nat:=31
abbrev bK:Nat:=32
abbrev jq:Nat:=33
abbrev ni:Nat:=34
abbrev Vb:Nat:=35
abbrev jd:Nat:=37
abbrev Zc:Nat:=38
abbrev ABa:Nat:=39
abbrev Zq:Nat:=40
abbrev aY:Nat:=41
abbrev Ee:Nat:=42
abbrev UY:Nat:=43
abbrev Ue:Nat:=44
abbrev UL:Nat:=45
abbrev Eu:Nat:=46
abbrev LD:Nat:=47
abbrev RV:Nat:=49
abbrev Lr:Nat:=50
abbrev TI:Nat:=53
abbrev Iz:Nat:=54
abbrev Me:Nat:=55
abbrev Xt:Nat:=56
abbrev YD:Nat:=57
abbrev VO:Nat:=58
abbrev Ze:Nat:=59
abbrev gV:Nat:=60
abbrev bP:Nat:=61
abbrev uj:Nat:=62
abbrev ay:Nat:=63
abbrev MW:Nat:=64
abbrev Pq:Nat:=65
abbrev Qv:Nat:=66
abbrev CY:Nat:=67
abbrev EY:Nat:=70
abbrev Qx:Nat:=71
abbrev WH:Nat:=72
abbrev FC:Nat:=73
abbrev bM:Nat:=77
abbrev rX:Nat:=79
abbrev JB:Nat:=81
abbrev F5:Nat:=82
abbrev X9:Nat:=83
abbrev Tq:Nat:=84
abbrev BH:Nat:=85
abbrev Fa:Nat:=86
abbrev Bc:Nat:=87
abbrev D5:Nat:=88
abbrev SG:Nat:=89
abbrev Es:Nat:=90
abbrev TL:Nat:=91
abbrev Wq:Nat:=92
abbrev AAF:Nat:=93
abbrev TS:Nat:=94
abbrev dF:Nat:=95
abbrev Ho:Nat:=96
abbrev Aq:Nat:=97
abbrev EW:Nat:=98
abbrev A8:Nat:=99
abbrev Ux:Nat:=100
abbrev O9:Nat:=103
abbrev IE:Nat:=104
abbrev FU:Nat:=105
abbrev SX:Nat:=106
abbrev U1:Nat:=107
abbrev Jv:Nat:=108
abbrev YW:Nat:=109
abbrev VU:Nat:=110
abbrev SN:Nat:=111
end Go.RL
namespace Go.RL
open Go.Bv
set_option maxRecDepth 100000
abbrev tr(l:List (Nat×Nat))(d:Bool)(o:AHj)(g:Nat)(f:Func):Option AF:=trF Go.Proofs.Tryd.prog (inR l) d o g f
abbrev U2:=tr [(25,25),(27,28),(30,41),(43,46),(51,54),(59,64),(69,70),(77,89),(99,109),(111,112)] false [(20,[(0,.plain),(1,.plain),(2,.plain),(3,.plain),(4,.plain),(5,.plain),(6,.wr)]),(24,VH 9)] 0 Proofs.Tryd.f7
def I9:=Bo U2
theorem dV:U2=some I9:=Ak (by kernel_rfl)
abbrev jX:=tr [(9,12),(14,17)] false [] 0 Proofs.Tryd.f13
def Ru:=Bo jX
theorem yU:jX=some Ru:=Ak (by kernel_rfl)
abbrev zC:=tr [(13,14),(16,18),(23,24),(37,39),(41,41),(62,72),(77,78),(87,87),(89,93),(95,96)] false [(8,VH 14),(13,VH 9),(14,VH 13),(21,VH 9)] 0 Proofs.Tryd.f14
def Yo:=Bo zC
theorem AFL:zC=some Yo:=Ak (by kernel_rfl)
abbrev bH:=tr [(11,11),(28,52),(54,55)] false [(1,VH 12)] 0 Proofs.Tryd.f17
def PE:=Bo bH
theorem uQ:bH=some PE:=Ak (by kernel_rfl)
abbrev Zw:=tr [(3,3),(5,9)] false [] 0 Proofs.Tryd.f18
def NU:=Bo Zw
theorem pV:Zw=some NU:=Ak (by kernel_rfl)
abbrev Y2:=tr [(9,9),(11,22),(24,24),(31,31)] false [(6,[(0,.plain),(1,.plain),(2,.plain),(4,.plain),(5,.plain),(3,.plain),(6,.wr),(7,.wr)])] 0 Proofs.Tryd.f19
def Nj:=Bo Y2
theorem qI:Y2=some Nj:=Ak (by kernel_rfl)
abbrev aV:=tr [(8,8),(10,21)] false [] 0 Proofs.Tryd.f21
def O7:=Bo aV
theorem rH:aV=some O7:=Ak (by kernel_rfl)
abbrev fG:=tr [(3,25)] false [] 0 Proofs.Tryd.f25
def Qj:=Bo fG
theorem uq:fG=some Qj:=Ak (by kernel_rfl)
abbrev mX:=tr [(6,6),(11,11),(16,25),(30,32),(43,45),(47,54)] false [(8,VH 11)] 0 Proofs.Tryd.f26
def UN:=Bo mX
theorem AAZ:mX=some UN:=Ak (by kernel_rfl)
abbrev Zd:=tr [(7,13)] false [] 0 Proofs.Tryd.f28
def Np:=Bo Zd
theorem qB:Zd=some Np:=Ak (by kernel_rfl)
abbrev ADs:=tr [(1,1)] false [] 0 Proofs.Tryd.f29
def iq:=Bo ADs
theorem AIq:ADs=some iq:=Ak (by kernel_rfl)
abbrev VA:=tr [(9,9),(11,11),(19,38),(40,44),(49,65),(67,67)] false [(15,VH 12)] 0 Proofs.Tryd.f30
def I8:=Bo VA
theorem dh:VA=some I8:=Ak (by kernel_rfl)
abbrev qo:=tr [(5,7)] false [] 0 Proofs.Tryd.f31
def Vh:=Bo qo
theorem ABq:qo=some Vh:=Ak (by kernel_rfl)
abbrev aZ:=tr [(5,10),(12,15)] false [] 0 Proofs.Tryd.f32
def PK:=Bo aZ
theorem uD:aZ=some PK:=Ak (by kernel_rfl)
abbrev jc:=tr [(7,37)] false [] 0 Proofs.Tryd.f33
def Ri:=Bo jc
theorem yT:jc=some Ri:=Ak (by kernel_rfl)
abbrev mY:=tr [(3,4),(6,9)] false [] 0 Proofs.Tryd.f34
def UU:=Bo mY
theorem AAe:mY=some UU:=Ak (by kernel_rfl)
abbrev nI:=tr [(3,8)] false [] 0 Proofs.Tryd.f35
def UM:=Bo nI
theorem AAb:nI=some UM:=Ak (by kernel_rfl)
abbrev jW:=tr [(13,56),(58,59),(64,67),(69,71),(76,80),(82,84),(89,104),(106,108),(113,125),(127,128),(133,137),(139,139)] false [] 0 Proofs.Tryd.f37
def Rz:=Bo jW
theorem xP:jW=some Rz:=Ak (by kernel_rfl)
abbrev ZM:=tr [(9,27),(29,29),(34,47),(49,80),(82,82),(87,88),(95,96)] false [(15,VH 6)] 0 Proofs.Tryd.f38
def NW:=Bo ZM
theorem pU:ZM=some NW:=Ak (by kernel_rfl)
abbrev ABX:=tr [(6,9),(14,15),(23,24)] false [(5,VH 8)] 0 Proofs.Tryd.f39
def bZ:=Bo ABX
theorem AGu:ABX=some bZ:=Ak (by kernel_rfl)
abbrev Y3:=tr [(10,10),(13,14),(18,18),(21,31),(33,49),(51,59),(61,62),(64,66),(71,77),(79,88),(90,91),(96,105),(107,127),(129,129)] false [] 0 Proofs.Tryd.f40
def Na:=Bo Y3
theorem pX:Y3=some Na:=Ak (by kernel_rfl)
abbrev bQ:=tr [(14,14),(16,16),(21,22),(32,32),(41,41),(46,47),(62,69),(71,72),(77,85),(87,87)] false [(4,VH 9),(7,VH 8),(12,opp [0,1,2,3,4,5,6,7,8,14,9,10,11,12,13,15,16,17])] 0 Proofs.Tryd.f41
def Ol:=Bo bQ
theorem uS:bQ=some Ol:=Ak (by kernel_rfl)
abbrev aO:=tr [(8,8),(10,26)] false [] 0 Proofs.Tryd.f42
def Ox:=Bo aO
theorem sS:aO=some Ox:=Ak (by kernel_rfl)
abbrev ZU:=tr [(10,10),(14,14),(17,22),(27,40),(44,45)] false [(8,VH 5)] 0 Proofs.Tryd.f43
def Nl:=Bo ZU
theorem qL:ZU=some Nl:=Ak (by kernel_rfl)
abbrev Zx:=tr [(8,8),(13,17),(19,21)] false [] 0 Proofs.Tryd.f44
def Nq:=Bo Zx
theorem pY:Zx=some Nq:=Ak (by kernel_rfl)
abbrev jk:=tr [(5,30)] false [] 0 Proofs.Tryd.f45
def Ro:=Bo jk
theorem yj:jk=some Ro:=Ak (by kernel_rfl)
abbrev NR:=tr [(5,8)] false [] 0 Proofs.Tryd.f46
def Ef:=Bo NR
theorem Ve:NR=some Ef:=Ak (by kernel_rfl)
abbrev ZC:=tr [(7,7),(13,16),(18,20),(22,29),(31,31)] false [] 0 Proofs.Tryd.f47
def Nh:=Bo ZC
theorem qG:ZC=some Nh:=Ak (by kernel_rfl)
abbrev XR:=tr [(8,19),(41,58),(86,106),(108,123),(125,140),(142,146)] false [(4,VH 11),(6,VH 10),(10,VH 13),(11,VH 15)] 0 Proofs.Tryd.f49
def LQ:=Bo XR
theorem kK:XR=some LQ:=Ak (by kernel_rfl)
abbrev AGi:=tr [(3,4)] false [] 0 Proofs.Tryd.f50
def oV:=Bo AGi
theorem AKq:AGi=some oV:=Ak (by kernel_rfl)
abbrev YJ:=tr [(12,12),(16,16),(19,24),(29,48),(52,53)] false [(8,VH 5)] 0 Proofs.Tryd.f53
def MV:=Bo YJ
theorem mJ:YJ=some MV:=Ak (by kernel_rfl)
abbrev Tz:=tr [(10,10),(17,25),(30,38),(40,41),(46,57),(65,68)] false [(11,VH 9)] 0 Proofs.Tryd.f54
def IQ:=Bo Tz
theorem aG:Tz=some IQ:=Ak (by kernel_rfl)
abbrev UG:=tr [(27,33),(44,51),(56,75),(77,90),(92,97),(99,110),(112,117),(119,126),(128,128),(136,138),(140,143),(145,146),(148,157),(159,165),(179,181),(183,197),(199,205),(207,216),(218,221),(223,226),(228,229),(242,251),(253,263),(265,275)] false [(2,VH 10),(27,VH 7),(39,VH 12),(58,VH 13)] 0 Proofs.Tryd.f55
def IL:=Bo UG
theorem aI:UG=some IL:=Ak (by kernel_rfl)
abbrev ji:=tr [(3,8)] false [] 0 Proofs.Tryd.f56
def SA:=Bo ji
theorem yc:ji=some SA:=Ak (by kernel_rfl)
abbrev jr:=tr [(9,29),(31,31),(36,47),(49,50),(55,72),(74,74),(79,83),(85,86)] false [] 0 Proofs.Tryd.f57
def Ry:=Bo jr
theorem yX:jr=some Ry:=Ak (by kernel_rfl)
abbrev bT:=tr [(8,47),(49,49),(54,70),(72,75),(80,107),(109,111)] false [] 0 Proofs.Tryd.f58
def PU:=Bo bT
theorem uV:bT=some PU:=Ak (by kernel_rfl)
abbrev ZN:=tr [(13,27),(32,34),(36,37),(42,45),(47,48),(53,56),(58,59),(64,88),(90,91),(96,106),(108,108)] false [] 0 Proofs.Tryd.f59
def Nr:=Bo ZN
theorem qP:ZN=some Nr:=Ak (by kernel_rfl)
abbrev fE:=tr [(6,8),(10,13),(15,17)] false [(6,VH 12)] 0 Proofs.Tryd.f60
def Qd:=Bo fE
theorem wK:fE=some Qd:=Ak (by kernel_rfl)
abbrev bU:=tr [(5,5)] false [] 0 Proofs.Tryd.f61
def O1:=Bo bU
theorem sH:bU=some O1:=Ak (by kernel_rfl)
abbrev vT:=tr [(5,6),(10,10),(29,31),(35,35),(54,54)] false [(4,VH 18),(10,VH 18)] 0 Proofs.Tryd.f62
def XA:=Bo vT
theorem ACv:vT=some XA:=Ak (by kernel_rfl)
abbrev bD:=tr [(8,8),(13,17),(19,22)] false [] 0 Proofs.Tryd.f63
def Ou:=Bo bD
theorem tX:bD=some Ou:=Ak (by kernel_rfl)
abbrev MH:=tr [(6,9),(11,11),(15,15),(25,25)] false [(6,VH 9)] 0 Proofs.Tryd.f64
def ES:=Bo MH
theorem VD:MH=some ES:=Ak (by kernel_rfl)
abbrev Pn:=tr [(6,6),(10,15),(17,18)] false [] 0 Proofs.Tryd.f65
def Fj:=Bo Pn
theorem Xd:Pn=some Fj:=Ak (by kernel_rfl)
abbrev zl:=tr [(3,22)] false [] 0 Proofs.Tryd.f66
def Yl:=Bo zl
theorem AFJ:zl=some Yl:=Ak (by kernel_rfl)
abbrev fB:=tr [(3,22)] false [] 0 Proofs.Tryd.f67
def Qk:=Bo fB
theorem vI:fB=some Qk:=Ak (by kernel_rfl)
abbrev WI:=tr [(18,24),(26,33),(35,36),(62,62),(67,69),(86,86),(107,108),(113,115),(151,151),(153,162)] false [(6,VH 18),(8,VH 9),(14,opp [0,1,2,3,4,5,6,7,8,9,10,11,16,12,13,14,15,17,18]),(17,[(0,.plain),(1,.plain),(2,.plain),(3,.plain),(4,.plain),(5,.plain),(6,.plain),(7,.plain),(8,.plain),(9,.plain),(10,.plain),(11,.plain),(12,.wr)]),(18,VH 8),(23,opp [0,1,2,3,4,5,6,7,8,9,10,11,16,12,13,14,15,17,18]),(24,[(0,.plain),(1,.plain),(2,.plain),(3,.plain),(4,.plain),(5,.plain),(6,.plain),(7,.plain),(8,.plain),(9,.plain),(10,.plain),(11,.plain),(12,.wr)]),(25,VH 8)] 0 Proofs.Tryd.f70
def J9:=Bo WI
theorem jJ:WI=some J9:=Ak (by kernel_rfl)
abbrev XY:=tr [] false [(1,opp [0,1,3,4,2,5,6,7])] 0 Proofs.Tryd.f71
def LM:=Bo XY
theorem kH:XY=some LM:=Ak (by kernel_rfl)
abbrev WM:=tr [(12,12),(15,15),(17,19),(22,26),(28,32),(34,38),(40,40),(65,70),(79,79),(81,97),(99,112),(114,125),(127,138),(140,186),(188,193),(195,200),(202,208),(210,219),(221,225)] false [(10,VH 24),(13,VH 9)] 0 Proofs.Tryd.f72
def J8:=Bo WM
theorem iR:WM=some J8:=Ak (by kernel_rfl)
abbrev V5:=tr [(7,13),(15,16)] false [] 0 Proofs.Tryd.f73
def JR:=Bo V5
theorem gX:V5=some JR:=Ak (by kernel_rfl)
abbrev bY:=tr [(8,10),(15,30)] false [(3,VH 4)] 0 Proofs.Tryd.f77
def Oj:=Bo bY
theorem rO:bY=some Oj:=Ak (by kernel_rfl)
abbrev AB5:=tr [(1,1)] false [] 0 Proofs.Tryd.f79
def aW:=Bo AB5
theorem AG3:AB5=some aW:=Ak (by kernel_rfl)
abbrev qW:=tr [(1,1)] false [] 0 Proofs.Tryd.f81
def VK:=Bo qW
theorem ACG:qW=some VK:=Ak (by kernel_rfl)
abbrev aT:=tr [] false [(1,VH 12)] 0 Proofs.Tryd.f82
def PI:=Bo aT
theorem rW:aT=some PI:=Ak (by kernel_rfl)
abbrev jY:=tr [(3,5)] false [] 0 Proofs.Tryd.f83
def Rx:=Bo jY
theorem xQ:jY=some Rx:=Ak (by kernel_rfl)
abbrev Ti:=tr [(8,10),(15,20),(22,24)] false [] 0 Proofs.Tryd.f84
def IW:=Bo Ti
theorem Z9:Ti=some IW:=Ak (by kernel_rfl)
abbrev U5:=tr [(5,8),(10,14)] false [] 0 Proofs.Tryd.f85
def I5:=Bo U5
theorem dS:U5=some I5:=Ak (by kernel_rfl)
abbrev SH:=tr [(3,6)] false [] 0 Proofs.Tryd.f86
def Hu:=Bo SH
theorem Zp:SH=some Hu:=Ak (by kernel_rfl)
abbrev Q5:=tr [(4,5),(7,20)] false [] 0 Proofs.Tryd.f87
def Gq:=Bo Q5
theorem Yd:Q5=some Gq:=Ak (by kernel_rfl)
abbrev Qz:=tr [(5,12),(14,15)] false [] 0 Proofs.Tryd.f88
def Gu:=Bo Qz
theorem Yb:Qz=some Gu:=Ak (by kernel_rfl)
abbrev SK:=tr [(16,16),(26,26),(28,35),(37,43),(45,55),(57,62),(64,67),(69,76),(78,85),(87,88),(108,119),(124,148),(150,152),(154,158),(160,175),(177,179),(181,184),(212,213),(215,224),(226,230),(232,242)] false [(18,VH 17),(42,VH 28)] 0 Proofs.Tryd.f89
def Hw:=Bo SK
theorem Zg:SK=some Hw:=Ak (by kernel_rfl)
abbrev Iw:=tr [(5,8)] false [] 0 Proofs.Tryd.f90
def DN:=Bo Iw
theorem QF:Iw=some DN:=Ak (by kernel_rfl)
abbrev YH:=tr [(3,5)] false [] 0 Proofs.Tryd.f91
def ML:=Bo YH
theorem nS:YH=some ML:=Ak (by kernel_rfl)
abbrev qc:=tr [(3,10)] false [] 0 Proofs.Tryd.f92
def V4:=Bo qc
theorem ACb:qc=some V4:=Ak (by kernel_rfl)
abbrev AAL:=tr [(3,6)] false [] 0 Proofs.Tryd.f93
def Yh:=Bo AAL
theorem AFD:AAL=some Yh:=Ak (by kernel_rfl)
abbrev YM:=tr [(7,11),(13,17),(19,23),(25,29),(31,35),(37,39),(41,44)] false [] 0 Proofs.Tryd.f94
def MF:=Bo YM
theorem oM:YM=some MF:=Ak (by kernel_rfl)
abbrev qX:=tr [(10,13),(22,22),(31,31),(33,38),(48,48),(50,52)] false [(3,VH 8),(5,VH 8),(8,VH 10)] 0 Proofs.Tryd.f95
def Vy:=Bo qX
theorem ACf:qX=some Vy:=Ak (by kernel_rfl)
abbrev MB:=tr [(3,3),(5,7)] false [] 0 Proofs.Tryd.f96
def EP:=Bo MB
theorem VF:MB=some EP:=Ak (by kernel_rfl)
abbrev WB:=tr [] false [(1,VH 11),(2,VH 12)] 0 Proofs.Tryd.f97
def J6:=Bo WB
theorem iP:WB=some J6:=Ak (by kernel_rfl)
abbrev YF:=tr [(6,12),(14,31)] false [] 0 Proofs.Tryd.f98
def MK:=Bo YF
theorem nG:YF=some MK:=Ak (by kernel_rfl)
abbrev Xk:=tr [(9,12),(14,21),(46,54)] false [(5,VH 24)] 0 Proofs.Tryd.f99
def LP:=Bo Xk
theorem kS:Xk=some LP:=Ak (by kernel_rfl)
abbrev U3:=tr [(13,13),(16,16),(32,32),(67,76),(106,106),(117,131),(133,133),(155,156),(167,172),(174,194),(196,205)] false [(3,VH 15),(5,VH 34),(11,VH 12),(12,VH 17),(14,VH 12),(17,VH 12),(18,opp [0,1,2,3,5,6,7,4,8,9,10]),(21,VH 12)] 0 Proofs.Tryd.f100
def I4:=Bo U3
theorem dM:U3=some I4:=Ak (by kernel_rfl)
abbrev Zh:=tr [(8,17)] false [] 0 Proofs.Tryd.f103
def Nk:=Bo Zh
theorem pW:Zh=some Nk:=Ak (by kernel_rfl)
abbrev jw:=tr [(4,5)] false [] 0 Proofs.Tryd.f104
def Rj:=Bo jw
theorem yY:jw=some Rj:=Ak (by kernel_rfl)
abbrev SE:=tr [(9,14),(16,28),(43,48)] false [(4,VH 15)] 0 Proofs.Tryd.f105
def Hl:=Bo SE
theorem Y5:SE=some Hl:=Ak (by kernel_rfl)
abbrev SS:=tr [(16,24),(26,34),(36,42),(44,45),(47,48),(57,57),(60,68),(70,71),(87,87),(89,90),(104,112)] false [(11,VH 9),(17,VH 17),(20,VH 13),(23,VH 9),(24,VH 10)] 0 Proofs.Tryd.f106
def Gy:=Bo SS
theorem Zr:SS=some Gy:=Ak (by kernel_rfl)
abbrev Uy:=tr [(12,13),(15,23),(25,33),(35,43),(45,48),(50,57),(59,69),(71,79),(81,89),(91,98)] false [] 0 Proofs.Tryd.f107
def JA:=Bo Uy
theorem dQ:Uy=some JA:=Ak (by kernel_rfl)
abbrev Ji:=tr [(6,6),(10,15),(17,18)] false [] 0 Proofs.Tryd.f108
def Dj:=Bo Ji
theorem SC:Ji=some Dj:=Ak (by kernel_rfl)
abbrev YK:=tr [(8,8),(11,16),(21,25),(27,28)] false [] 0 Proofs.Tryd.f109
def MP:=Bo YK
theorem nX:YK=some MP:=Ak (by kernel_rfl)
abbrev Vp:=tr [(10,11),(13,17),(44,45)] false [(3,VH 17),(4,VH 12),(6,opp [0,1,2,3,4,5,7,6,8,9,10,11,12]),(7,VH 18)] 0 Proofs.Tryd.f110
def JW:=Bo Vp
theorem iF:Vp=some JW:=Ak (by kernel_rfl)
abbrev SI:=tr [(23,27),(29,33)] false [(1,VH 12)] 0 Proofs.Tryd.f111
def Hz:=Bo SI
theorem Zn:SI=some Hz:=Ak (by kernel_rfl)
def F:T AF:=(.n none (.n none (.n none (.n (some I9) (.n none (.n (some Vh) (.n (some Ou) .e .e) (.n (some Vy) .e .e)) (.n (some Nh) (.n (some aW) .e .e) (.n (some Hz) .e .e))) (.n none (.n (some bZ) (.n (some LM) .e .e) (.n (some Nk) .e .e)) (.n (some IL) (.n (some Gq) .e .e) .e))) (.n none (.n (some Nj) (.n (some UM) (.n (some Qk) .e .e) (.n (some LP) .e .e)) (.n none (.n (some Rx) .e .e) .e)) (.n none (.n (some Nl) .e (.n (some JA) .e .e)) (.n (some Nr) (.n (some ML) .e .e) .e)))) (.n none (.n none (.n (some PE) (.n (some Ri) (.n (some Fj) .e .e) (.n (some J6) .e .e)) (.n (some LQ) (.n (some VK) .e .e) .e)) (.n (some Qj) (.n (some Ol) (.n (some JR) .e .e) (.n (some Hl) .e .e)) (.n (some Ry) (.n (some Hw) .e .e) .e))) (.n (some Ru) (.n (some O7) (.n (some Rz) .e .e) (.n (some MV) (.n (some I5) .e .e) .e)) (.n (some iq) (.n (some Ro) (.n (some Oj) .e .e) (.n (some MP) .e .e)) (.n (some O1) (.n (some Yh) .e .e) .e))))) (.n none (.n none (.n none (.n none (.n (some PK) (.n (some ES) .e .e) (.n (some EP) .e .e)) .e) (.n none (.n (some Na) (.n (some J8) .e .e) (.n (some Rj) .e .e)) (.n (some SA) (.n (some Gu) .e .e) .e))) (.n none (.n none (.n none .e (.n (some I4) .e .e)) (.n none (.n (some IW) .e .e) .e)) (.n (some Np) (.n (some Nq) .e (.n (some Dj) .e .e)) (.n (some Qd) (.n (some V4) .e .e) .e)))) (.n none (.n none (.n (some NU) (.n (some UU) (.n (some Yl) .e .e) (.n (some MK) .e .e)) (.n (some oV) (.n (some PI) .e .e) .e)) (.n (some UN) (.n (some Ox) .e (.n (some Gy) .e .e)) (.n (some PU) (.n (some DN) .e .e) .e))) (.n (some Yo) (.n none (.n (some NW) (.n (some J9) .e .e) .e) (.n (some IQ) (.n (some Hu) .e .e) .e)) (.n (some I8) (.n (some Ef) .e (.n (some JW) .e .e)) (.n (some XA) (.n (some MF) .e .e) .e))))))
theorem NK:T.get F 7=some I9:=by kernel_rfl
theorem WR:T.get F 13=some Ru:=by kernel_rfl
theorem iy:T.get F 14=some Yo:=by kernel_rfl
theorem Ud:T.get F 17=some PE:=by kernel_rfl
theorem TU:T.get F 18=some NU:=by kernel_rfl
theorem TP:T.get F 19=some Nj:=by kernel_rfl
theorem Ub:T.get F 21=some O7:=by kernel_rfl
theorem wu:T.get F 25=some Qj:=by kernel_rfl
theorem Xy:T.get F 26=some UN:=by kernel_rfl
theorem TV:T.get F 28=some Np:=by kernel_rfl
theorem rD:T.get F 29=some iq:=by kernel_rfl
theorem NI:T.get F 30=some I8:=by kernel_rfl
theorem AA5:T.get F 31=some Vh:=by kernel_rfl
theorem su:T.get F 32=some PK:=by kernel_rfl
theorem yg:T.get F 33=some Ri:=by kernel_rfl
theorem X8:T.get F 34=some UU:=by kernel_rfl
theorem X0:T.get F 35=some UM:=by kernel_rfl
theorem WS:T.get F 37=some Rz:=by kernel_rfl
theorem Sr:T.get F 38=some NW:=by kernel_rfl
theorem nJ:T.get F 39=some bZ:=by kernel_rfl
theorem Sl:T.get F 40=some Na:=by kernel_rfl
theorem Un:T.get F 41=some Ol:=by kernel_rfl
theorem Ut:T.get F 42=some Ox:=by kernel_rfl
theorem Sz:T.get F 43=some Nl:=by kernel_rfl
theorem TW:T.get F 44=some Nq:=by kernel_rfl
theorem WU:T.get F 45=some Ro:=by kernel_rfl
theorem Hr:T.get F 46=some Ef:=by kernel_rfl
theorem S9:T.get F 47=some Nh:=by kernel_rfl
theorem QG:T.get F 49=some LQ:=by kernel_rfl
theorem yx:T.get F 50=some oV:=by kernel_rfl
theorem RQ:T.get F 53=some MV:=by kernel_rfl
theorem LZ:T.get F 54=some IQ:=by kernel_rfl
theorem La:T.get F 55=some IL:=by kernel_rfl
theorem WW:T.get F 56=some SA:=by kernel_rfl
theorem Wl:T.get F 57=some Ry:=by kernel_rfl
theorem UW:T.get F 58=some PU:=by kernel_rfl
theorem TB:T.get F 59=some Nr:=by kernel_rfl
theorem VN:T.get F 60=some Qd:=by kernel_rfl
theorem Uf:T.get F 61=some O1:=by kernel_rfl
theorem cZ:T.get F 62=some XA:=by kernel_rfl
theorem Uk:T.get F 63=some Ou:=by kernel_rfl
theorem Gw:T.get F 64=some ES:=by kernel_rfl
theorem JI:T.get F 65=some Fj:=by kernel_rfl
theorem jT:T.get F 66=some Yl:=by kernel_rfl
theorem Vu:T.get F 67=some Qk:=by kernel_rfl
theorem O0:T.get F 70=some J9:=by kernel_rfl
theorem QL:T.get F 71=some LM:=by kernel_rfl
theorem Oy:T.get F 72=some J8:=by kernel_rfl
theorem N8:T.get F 73=some JR:=by kernel_rfl
theorem Ur:T.get F 77=some Oj:=by kernel_rfl
theorem lG:T.get F 79=some aW:=by kernel_rfl
theorem Zf:T.get F 81=some VK:=by kernel_rfl
theorem Ul:T.get F 82=some PI:=by kernel_rfl
theorem WZ:T.get F 83=some Rx:=by kernel_rfl
theorem Lc:T.get F 84=some IW:=by kernel_rfl
theorem NP:T.get F 85=some I5:=by kernel_rfl
theorem ZJ:T.get F 86=some Hu:=by kernel_rfl
theorem J3:T.get F 87=some Gq:=by kernel_rfl
theorem KC:T.get F 88=some Gu:=by kernel_rfl
theorem KT:T.get F 89=some Hw:=by kernel_rfl
theorem EX:T.get F 90=some DN:=by kernel_rfl
theorem Q8:T.get F 91=some ML:=by kernel_rfl
theorem Yz:T.get F 92=some V4:=by kernel_rfl
theorem jH:T.get F 93=some Yh:=by kernel_rfl
theorem RZ:T.get F 94=some MF:=by kernel_rfl
theorem ZQ:T.get F 95=some Vy:=by kernel_rfl
theorem Gv:T.get F 96=some EP:=by kernel_rfl
theorem PO:T.get F 97=some J6:=by kernel_rfl
theorem Qs:T.get F 98=some MK:=by kernel_rfl
theorem QN:T.get F 99=some LP:=by kernel_rfl
theorem NJ:T.get F 100=some I4:=by kernel_rfl
theorem TF:T.get F 103=some Nk:=by kernel_rfl
theorem WY:T.get F 104=some Rj:=by kernel_rfl
theorem KR:T.get F 105=some Hl:=by kernel_rfl
theorem KQ:T.get F 106=some Gy:=by kernel_rfl
theorem NH:T.get F 107=some JA:=by kernel_rfl
theorem FK:T.get F 108=some Dj:=by kernel_rfl
theorem RD:T.get F 109=some MP:=by kernel_rfl
theorem OM:T.get F 110=some JW:=by kernel_rfl
theorem LG:T.get F 111=some Hz:=by kernel_rfl
abbrev Fg(n:Nat)(a:AF):Prop:=ACX Go.Proofs.Tryd.prog F n a
theorem ok1{n:Nat}{a:AF}{fn:Func}{loc:Nat->Bool}{df:Bool}{ords:AHj}{dg:Nat}(hf:Go.Proofs.Tryd.prog.funcs[n]? =some fn)(ht:trF Go.Proofs.Tryd.prog loc df ords dg fn=some a)(hn:(fn.name== "runtime.NumGoroutine")=false:=by kernel_rfl)(hd:a.dg=dg:=by kernel_rfl)(hi:AKT a.dp=true:=by kernel_rfl):Fg n a:=.one hf hn ht hd hi
theorem Zo:Fg 7 I9:=ok1 Proofs.Tryd.func7 dV
theorem tq:Fg 13 Ru:=ok1 Proofs.Tryd.func13 yU
theorem ABe:Fg 14 Yo:=ok1 Proofs.Tryd.func14 AFL
theorem lQ:Fg 17 PE:=ok1 Proofs.Tryd.func17 uQ
theorem kV:Fg 18 NU:=ok1 Proofs.Tryd.func18 pV
theorem kM:Fg 19 Nj:=ok1 Proofs.Tryd.func19 qI
theorem nV:Fg 21 O7:=ok1 Proofs.Tryd.func21 rH
theorem qK:Fg 25 Qj:=ok1 Proofs.Tryd.func25 uq
theorem wG:Fg 26 UN:=ok1 Proofs.Tryd.func26 AAZ
theorem kX:Fg 28 Np:=ok1 Proofs.Tryd.func28 qB
theorem AEV:Fg 29 iq:=ok1 Proofs.Tryd.func29 AIq
theorem ZO:Fg 30 I8:=ok1 Proofs.Tryd.func30 dh
theorem xM:Fg 31 Vh:=ok1 Proofs.Tryd.func31 ABq
theorem oH:Fg 32 PK:=ok1 Proofs.Tryd.func32 uD
theorem sQ:Fg 33 Ri:=ok1 Proofs.Tryd.func33 yT
theorem wF:Fg 34 UU:=ok1 Proofs.Tryd.func34 AAe
theorem vJ:Fg 35 UM:=ok1 Proofs.Tryd.func35 AAb
theorem tJ:Fg 37 Rz:=ok1 Proofs.Tryd.func37 xP
theorem kD:Fg 38 NW:=ok1 Proofs.Tryd.func38 pU
theorem ACz:Fg 39 bZ:=ok1 Proofs.Tryd.func39 AGu
theorem kU:Fg 40 Na:=ok1 Proofs.Tryd.func40 pX
theorem lT:Fg 41 Ol:=ok1 Proofs.Tryd.func41 uS
theorem lV:Fg 42 Ox:=ok1 Proofs.Tryd.func42 sS
theorem kF:Fg 43 Nl:=ok1 Proofs.Tryd.func43 qL
theorem kL:Fg 44 Nq:=ok1 Proofs.Tryd.func44 pY
theorem rJ:Fg 45 Ro:=ok1 Proofs.Tryd.func45 yj
theorem Ua:Fg 46 Ef:=ok1 Proofs.Tryd.func46 Ve
theorem kP:Fg 47 Nh:=ok1 Proofs.Tryd.func47 qG
theorem iH:Fg 49 LQ:=ok1 Proofs.Tryd.func49 kK
theorem AGL:Fg 50 oV:=ok1 Proofs.Tryd.func50 AKq
theorem jF:Fg 53 MV:=ok1 Proofs.Tryd.func53 mJ
theorem Yi:Fg 54 IQ:=ok1 Proofs.Tryd.func54 aG
theorem YZ:Fg 55 IL:=ok1 Proofs.Tryd.func55 aI
theorem sK:Fg 56 SA:=ok1 Proofs.Tryd.func56 yc
theorem rG:Fg 57 Ry:=ok1 Proofs.Tryd.func57 yX
theorem lK:Fg 58 PU:=ok1 Proofs.Tryd.func58 uV
theorem jy:Fg 59 Nr:=ok1 Proofs.Tryd.func59 qP
theorem qO:Fg 60 Qd:=ok1 Proofs.Tryd.func60 wK
theorem oD:Fg 61 O1:=ok1 Proofs.Tryd.func61 sH
theorem AAX:Fg 62 XA:=ok1 Proofs.Tryd.func62 ACv
theorem lg:Fg 63 Ou:=ok1 Proofs.Tryd.func63 tX
theorem Tv:Fg 64 ES:=ok1 Proofs.Tryd.func64 VD
theorem V8:Fg 65 Fj:=ok1 Proofs.Tryd.func65 Xd
theorem ABr:Fg 66 Yl:=ok1 Proofs.Tryd.func66 AFJ
theorem qJ:Fg 67 Qk:=ok1 Proofs.Tryd.func67 vI
theorem dX:Fg 70 J9:=ok1 Proofs.Tryd.func70 jJ
theorem gU:Fg 71 LM:=ok1 Proofs.Tryd.func71 kH
theorem dO:Fg 72 J8:=ok1 Proofs.Tryd.func72 iR
theorem aK:Fg 73 JR:=ok1 Proofs.Tryd.func73 gX
theorem nP:Fg 77 Oj:=ok1 Proofs.Tryd.func77 rO
theorem ADG:Fg 79 aW:=ok1 Proofs.Tryd.func79 AG3
theorem y8:Fg 81 VK:=ok1 Proofs.Tryd.func81 ACG
theorem lI:Fg 82 PI:=ok1 Proofs.Tryd.func82 rW
theorem rY:Fg 83 Rx:=ok1 Proofs.Tryd.func83 xQ
theorem Yg:Fg 84 IW:=ok1 Proofs.Tryd.func84 Z9
theorem ZH:Fg 85 I5:=ok1 Proofs.Tryd.func85 dS
theorem Xz:Fg 86 Hu:=ok1 Proofs.Tryd.func86 Zp
theorem Xc:Fg 87 Gq:=ok1 Proofs.Tryd.func87 Yd
theorem XG:Fg 88 Gu:=ok1 Proofs.Tryd.func88 Yb
theorem Xu:Fg 89 Hw:=ok1 Proofs.Tryd.func89 Zg
theorem PN:Fg 90 DN:=ok1 Proofs.Tryd.func90 QF
theorem jK:Fg 91 ML:=ok1 Proofs.Tryd.func91 nS
theorem yV:Fg 92 V4:=ok1 Proofs.Tryd.func92 ACb
theorem ABk:Fg 93 Yh:=ok1 Proofs.Tryd.func93 AFD
theorem iY:Fg 94 MF:=ok1 Proofs.Tryd.func94 oM
theorem xW:Fg 95 Vy:=ok1 Proofs.Tryd.func95 ACf
theorem Tj:Fg 96 EP:=ok1 Proofs.Tryd.func96 VF
theorem dG:Fg 97 J6:=ok1 Proofs.Tryd.func97 iP
theorem jL:Fg 98 MK:=ok1 Proofs.Tryd.func98 nG
theorem eH:Fg 99 LP:=ok1 Proofs.Tryd.func99 kS
theorem Zb:Fg 100 I4:=ok1 Proofs.Tryd.func100 dM
theorem kW:Fg 103 Nk:=ok1 Proofs.Tryd.func103 pW
theorem sU:Fg 104 Rj:=ok1 Proofs.Tryd.func104 yY
theorem Xw:Fg 105 Hl:=ok1 Proofs.Tryd.func105 Y5
theorem X5:Fg 106 Gy:=ok1 Proofs.Tryd.func106 Zr
theorem ZX:Fg 107 JA:=ok1 Proofs.Tryd.func107 dQ
theorem Qo:Fg 108 Dj:=ok1 Proofs.Tryd.func108 SC
theorem jG:Fg 109 MP:=ok1 Proofs.Tryd.func109 nX
theorem aJ:Fg 110 JW:=ok1 Proofs.Tryd.func110 iF
theorem YA:Fg 111 Hz:=ok1 Proofs.Tryd.func111 Zn
theorem all_good:T.All (λp af=>ACX Go.Proofs.Tryd.prog F p.key af) F:=(.n0 (.n0 (.n0 (.n1 Zo (.n0 (.n1 xM (.n1 lg .e .e) (.n1 xW .e .e)) (.n1 kP (.n1 ADG .e .e) (.n1 YA .e .e))) (.n0 (.n1 ACz (.n1 gU .e .e) (.n1 kW .e .e)) (.n1 YZ (.n1 Xc .e .e) .e))) (.n0 (.n1 kM (.n1 vJ (.n1 qJ .e .e) (.n1 eH .e .e)) (.n0 (.n1 rY .e .e) .e)) (.n0 (.n1 kF .e (.n1 ZX .e .e)) (.n1 jy (.n1 jK .e .e) .e)))) (.n0 (.n0 (.n1 lQ (.n1 sQ (.n1 V8 .e .e) (.n1 dG .e .e)) (.n1 iH (.n1 y8 .e .e) .e)) (.n1 qK (.n1 lT (.n1 aK .e .e) (.n1 Xw .e .e)) (.n1 rG (.n1 Xu .e .e) .e))) (.n1 tq (.n1 nV (.n1 tJ .e .e) (.n1 jF (.n1 ZH .e .e) .e)) (.n1 AEV (.n1 rJ (.n1 nP .e .e) (.n1 jG .e .e)) (.n1 oD (.n1 ABk .e .e) .e))))) (.n0 (.n0 (.n0 (.n0 (.n1 oH (.n1 Tv .e .e) (.n1 Tj .e .e)) .e) (.n0 (.n1 kU (.n1 dO .e .e) (.n1 sU .e .e)) (.n1 sK (.n1 XG .e .e) .e))) (.n0 (.n0 (.n0 .e (.n1 Zb .e .e)) (.n0 (.n1 Yg .e .e) .e)) (.n1 kX (.n1 kL .e (.n1 Qo .e .e)) (.n1 qO (.n1 yV .e .e) .e)))) (.n0 (.n0 (.n1 kV (.n1 wF (.n1 ABr .e .e) (.n1 jL .e .e)) (.n1 AGL (.n1 lI .e .e) .e)) (.n1 wG (.n1 lV .e (.n1 X5 .e .e)) (.n1 lK (.n1 PN .e .e) .e))) (.n1 ABe (.n0 (.n1 kD (.n1 dX .e .e) .e) (.n1 Yi (.n1 Xz .e .e) .e)) (.n1 ZO (.n1 Ua .e (.n1 aJ .e .e)) (.n1 AAX (.n1 iY .e .e) .e))))))
theorem AQ8:ACE Go.Proofs.Tryd.prog F:=.ASd (by kernel_rfl) all_good
end Go.RL
