/- Part of a proof; nothing is assumed. -/
import Derived.Test.YtibbhhkcjjeclaaDoorEngA
import Derived.Test.YtibbhhkcjjeclaaDoorEngF
import Derived.Test.YtibbhhkcjjeclaaDoorProg
set_option linter.unusedVariables false
set_option linter.unusedSimpArgs false
noncomputable section
namespace Go.RL
open Go.Bv
def q0:P2:=.h
def q1:P2:=.z q0
def q2:P2:=.o q0
def q3:P2:=.z q1
def q4:P2:=.o q1
def q5:P2:=.z q2
def q6:P2:=.o q2
def q7:P2:=.z q3
def q8:P2:=.o q3
def q9:P2:=.z q4
def q10:P2:=.o q4
def q11:P2:=.z q5
def q12:P2:=.o q5
def q13:P2:=.z q6
def q14:P2:=.o q6
def q15:P2:=.z q7
def q16:P2:=.o q7
def q17:P2:=.z q8
def q18:P2:=.o q8
def q19:P2:=.z q9
def q20:P2:=.o q9
def q21:P2:=.z q10
def q22:P2:=.o q10
def q23:P2:=.z q11
def q24:P2:=.o q11
def q25:P2:=.z q12
def q26:P2:=.o q12
def q27:P2:=.z q13
def q28:P2:=.o q13
def q29:P2:=.z q14
def q30:P2:=.o q14
def q31:P2:=.z q15
def q32:P2:=.o q15
def q33:P2:=.z q16
def q34:P2:=.o q16
def q35:P2:=.z q17
def q36:P2:=.o q17
def q37:P2:=.z q18
def q38:P2:=.o q18
def q39:P2:=.z q19
def q40:P2:=.o q19
def q41:P2:=.z q20
def q42:P2:=.o q20
def q43:P2:=.z q21
def q44:P2:=.o q21
def q45:P2:=.z q22
def q46:P2:=.o q22
def q47:P2:=.z q23
def q48:P2:=.o q23
def q49:P2:=.z q24
def q50:P2:=.o q24
def q51:P2:=.z q25
def q52:P2:=.o q25
def q53:P2:=.z q26
def q54:P2:=.o q26
def q55:P2:=.z q27
def q56:P2:=.o q27
def q57:P2:=.z q28
def q59:P2:=.z q29
def q60:P2:=.o q29
def q61:P2:=.z q30
def q62:P2:=.o q30
def q63:P2:=.z q31
def q64:P2:=.o q31
def q65:P2:=.z q32
def q66:P2:=.o q32
def q67:P2:=.z q33
def q68:P2:=.o q33
def q69:P2:=.z q34
def q72:P2:=.o q35
def q73:P2:=.z q36
def q74:P2:=.o q36
def q75:P2:=.z q37
def q76:P2:=.o q37
def q77:P2:=.z q38
def q78:P2:=.o q38
def q80:P2:=.o q39
def q83:P2:=.z q41
def q84:P2:=.o q41
def q85:P2:=.z q42
def q86:P2:=.o q42
def q87:P2:=.z q43
def q89:P2:=.z q44
def q90:P2:=.o q44
def q92:P2:=.o q45
def q93:P2:=.z q46
def q94:P2:=.o q46
def q98:P2:=.o q48
def AQq:P2:=.o q51
def ASe:P2:=.z q52
def ARP:P2:=.o q52
def ATO:P2:=.z q54
def AUo:P2:=.o q54
def ATf:P2:=.z q55
def AWA:P2:=.z q57
def AWE:P2:=.o q59
def AWJ:P2:=.z q60
def AVV:P2:=.o q60
def AWW:P2:=.z q64
def AVx:P2:=.o q64
def AV6:P2:=.z q65
def AVa:P2:=.z q69
def AWS:P2:=.o q76
def AWT:P2:=.o q89
def AWi:P2:=.o q90
def AWN:P2:=.z AWA
abbrev eX:Nat:=7
abbrev je:Nat:=13
abbrev mX:Nat:=14
abbrev bT:Nat:=17
abbrev ZK:Nat:=18
abbrev Di:Nat:=19
abbrev aQ:Nat:=21
abbrev WX:Nat:=25
abbrev Vg:Nat:=26
abbrev Zb:Nat:=28
abbrev KN:Nat:=29
abbrev Uz:Nat:=30
abbrev NK:Nat:=31
abbrev bP:Nat:=32
abbrev jX:Nat:=33
abbrev nX:Nat:=34
abbrev Vk:Nat:=35
abbrev jf:Nat:=37
abbrev Yy:Nat:=38
abbrev ACl:Nat:=39
abbrev Zh:Nat:=40
abbrev ah:Nat:=41
abbrev Ei:Nat:=42
abbrev Ui:Nat:=43
abbrev Uf:Nat:=44
abbrev UQ:Nat:=45
abbrev Eu:Nat:=46
abbrev KZ:Nat:=47
abbrev RJ:Nat:=49
abbrev MQ:Nat:=50
abbrev Sm:Nat:=53
abbrev Iy:Nat:=54
abbrev Me:Nat:=55
abbrev Xu:Nat:=56
abbrev X5:Nat:=57
abbrev VJ:Nat:=58
abbrev ZU:Nat:=59
abbrev gW:Nat:=60
abbrev bQ:Nat:=61
abbrev wI:Nat:=62
abbrev aj:Nat:=63
abbrev MJ:Nat:=64
abbrev P5:Nat:=65
abbrev Qu:Nat:=66
abbrev CY:Nat:=67
abbrev EY:Nat:=70
abbrev RF:Nat:=71
abbrev WB:Nat:=72
abbrev FK:Nat:=73
abbrev bV:Nat:=77
abbrev sD:Nat:=79
abbrev I8:Nat:=81
abbrev Fp:Nat:=82
abbrev Xw:Nat:=83
abbrev UG:Nat:=84
abbrev BH:Nat:=85
abbrev Fa:Nat:=86
abbrev Bc:Nat:=87
abbrev D7:Nat:=88
abbrev SY:Nat:=89
abbrev Ep:Nat:=90
abbrev TR:Nat:=91
abbrev Ws:Nat:=92
abbrev zy:Nat:=93
abbrev TB:Nat:=94
abbrev dJ:Nat:=95
abbrev Gy:Nat:=96
abbrev Ar:Nat:=97
abbrev EU:Nat:=98
abbrev A8:Nat:=99
abbrev U9:Nat:=100
abbrev Om:Nat:=103
abbrev IE:Nat:=104
abbrev FZ:Nat:=105
abbrev SI:Nat:=106
abbrev U3:Nat:=107
abbrev Jq:Nat:=108
abbrev YQ:Nat:=109
abbrev Vj:Nat:=110
abbrev SQ:Nat:=111
end Go.RL
namespace Go.RL
open Go.Bv
set_option maxRecDepth 100000
abbrev tr(l:List (Nat×Nat))(d:Bool)(o:AIO)(g:Nat)(f:Func):Option AF:=trF Go.Proofs.Tryd.prog (inR l) d o g f
abbrev U8:=tr [(25,25),(27,28),(30,41),(43,46),(51,54),(59,64),(69,70),(77,89),(99,109),(111,112)] false [(20,[(0,.plain),(1,.plain),(2,.plain),(3,.plain),(4,.plain),(5,.plain),(6,.wr)]),(24,VH 9)] 0 Proofs.Tryd.f7
def I4:=Bo U8
theorem dQ:U8=some I4:=Ak (by kernel_rfl)
abbrev jV:=tr [(9,12),(14,17)] false [] 0 Proofs.Tryd.f13
def Rw:=Bo jV
theorem yR:jV=some Rw:=Ak (by kernel_rfl)
abbrev AAK:=tr [(13,14),(16,18),(23,24),(37,39),(41,41),(62,72),(77,78),(87,87),(89,93),(95,96)] false [(8,VH 14),(13,VH 9),(14,VH 13),(21,VH 9)] 0 Proofs.Tryd.f14
def Yb:=Bo AAK
theorem AFE:AAK=some Yb:=Ak (by kernel_rfl)
abbrev bW:=tr [(11,11),(28,52),(54,55)] false [(1,VH 12)] 0 Proofs.Tryd.f17
def Ot:=Bo bW
theorem uP:bW=some Ot:=Ak (by kernel_rfl)
abbrev ZL:=tr [(3,3),(5,9)] false [] 0 Proofs.Tryd.f18
def Nj:=Bo ZL
theorem qM:ZL=some Nj:=Ak (by kernel_rfl)
abbrev ZR:=tr [(9,9),(11,22),(24,24),(31,31)] false [(6,[(0,.plain),(1,.plain),(2,.plain),(4,.plain),(5,.plain),(3,.plain),(6,.wr),(7,.wr)])] 0 Proofs.Tryd.f19
def NV:=Bo ZR
theorem qG:ZR=some NV:=Ak (by kernel_rfl)
abbrev ay:=tr [(8,8),(10,21)] false [] 0 Proofs.Tryd.f21
def PI:=Bo ay
theorem rJ:ay=some PI:=Ak (by kernel_rfl)
abbrev iE:=tr [(3,25)] false [] 0 Proofs.Tryd.f25
def Ql:=Bo iE
theorem xB:iE=some Ql:=Ak (by kernel_rfl)
abbrev lI:=tr [(6,6),(11,11),(16,25),(30,32),(43,45),(47,54)] false [(8,VH 11)] 0 Proofs.Tryd.f26
def UR:=Bo lI
theorem AAQ:lI=some UR:=Ak (by kernel_rfl)
abbrev Y6:=tr [(7,13)] false [] 0 Proofs.Tryd.f28
def Nb:=Bo Y6
theorem qB:Y6=some Nb:=Ak (by kernel_rfl)
abbrev ADj:=tr [(1,1)] false [] 0 Proofs.Tryd.f29
def jU:=Bo ADj
theorem AIW:ADj=some jU:=Ak (by kernel_rfl)
abbrev U6:=tr [(9,9),(11,11),(19,38),(40,44),(49,65),(67,67)] false [(15,VH 12)] 0 Proofs.Tryd.f30
def Iz:=Bo U6
theorem dD:U6=some Iz:=Ak (by kernel_rfl)
abbrev qX:=tr [(5,7)] false [] 0 Proofs.Tryd.f31
def Vo:=Bo qX
theorem ACk:qX=some Vo:=Ak (by kernel_rfl)
abbrev bJ:=tr [(5,10),(12,15)] false [] 0 Proofs.Tryd.f32
def PG:=Bo bJ
theorem tK:bJ=some PG:=Ak (by kernel_rfl)
abbrev jw:=tr [(7,37)] false [] 0 Proofs.Tryd.f33
def Ry:=Bo jw
theorem yc:jw=some Ry:=Ak (by kernel_rfl)
abbrev lX:=tr [(3,4),(6,9)] false [] 0 Proofs.Tryd.f34
def UO:=Bo lX
theorem AAU:lX=some UO:=Ak (by kernel_rfl)
abbrev lG:=tr [(3,8)] false [] 0 Proofs.Tryd.f35
def UU:=Bo lG
theorem AAa:lG=some UU:=Ak (by kernel_rfl)
abbrev jm:=tr [(13,56),(58,59),(64,67),(69,71),(76,80),(82,84),(89,104),(106,108),(113,125),(127,128),(133,137),(139,139)] false [] 0 Proofs.Tryd.f37
def Ru:=Bo jm
theorem yB:jm=some Ru:=Ak (by kernel_rfl)
abbrev ZM:=tr [(9,27),(29,29),(34,47),(49,80),(82,82),(87,88),(95,96)] false [(15,VH 6)] 0 Proofs.Tryd.f38
def Nl:=Bo ZM
theorem qJ:ZM=some Nl:=Ak (by kernel_rfl)
abbrev ACo:=tr [(6,9),(14,15),(23,24)] false [(5,VH 8)] 0 Proofs.Tryd.f39
def bF:=Bo ACo
theorem AGn:ACo=some bF:=Ak (by kernel_rfl)
abbrev ZG:=tr [(10,10),(13,14),(18,18),(21,31),(33,49),(51,59),(61,62),(64,66),(71,77),(79,88),(90,91),(96,105),(107,127),(129,129)] false [] 0 Proofs.Tryd.f40
def NW:=Bo ZG
theorem pU:ZG=some NW:=Ak (by kernel_rfl)
abbrev aT:=tr [(14,14),(16,16),(21,22),(32,32),(41,41),(46,47),(62,69),(71,72),(77,85),(87,87)] false [(4,VH 9),(7,VH 8),(12,opp [0,1,2,3,4,5,6,7,8,14,9,10,11,12,13,15,16,17])] 0 Proofs.Tryd.f41
def PN:=Bo aT
theorem sW:aT=some PN:=Ak (by kernel_rfl)
abbrev bH:=tr [(8,8),(10,26)] false [] 0 Proofs.Tryd.f42
def PD:=Bo bH
theorem sN:bH=some PD:=Ak (by kernel_rfl)
abbrev ZC:=tr [(10,10),(14,14),(17,22),(27,40),(44,45)] false [(8,VH 5)] 0 Proofs.Tryd.f43
def Na:=Bo ZC
theorem pV:ZC=some Na:=Ak (by kernel_rfl)
abbrev ZT:=tr [(8,8),(13,17),(19,21)] false [] 0 Proofs.Tryd.f44
def Nk:=Bo ZT
theorem pY:ZT=some Nk:=Ak (by kernel_rfl)
abbrev jZ:=tr [(5,30)] false [] 0 Proofs.Tryd.f45
def SA:=Bo jZ
theorem yZ:jZ=some SA:=Ak (by kernel_rfl)
abbrev NR:=tr [(5,8)] false [] 0 Proofs.Tryd.f46
def Ea:=Bo NR
theorem Ve:NR=some Ea:=Ak (by kernel_rfl)
abbrev Zq:=tr [(7,7),(13,16),(18,20),(22,29),(31,31)] false [] 0 Proofs.Tryd.f47
def NY:=Bo Zq
theorem pR:Zq=some NY:=Ak (by kernel_rfl)
abbrev XJ:=tr [(8,19),(41,58),(86,106),(108,123),(125,140),(142,146)] false [(4,VH 11),(6,VH 10),(10,VH 13),(11,VH 15)] 0 Proofs.Tryd.f49
def LU:=Bo XJ
theorem kJ:XJ=some LU:=Ak (by kernel_rfl)
abbrev AGp:=tr [(3,4)] false [] 0 Proofs.Tryd.f50
def oP:=Bo AGp
theorem AKi:AGp=some oP:=Ak (by kernel_rfl)
abbrev YS:=tr [(12,12),(16,16),(19,24),(29,48),(52,53)] false [(8,VH 5)] 0 Proofs.Tryd.f53
def L8:=Bo YS
theorem lq:YS=some L8:=Ak (by kernel_rfl)
abbrev UJ:=tr [(10,10),(17,25),(30,38),(40,41),(46,57),(65,68)] false [(11,VH 9)] 0 Proofs.Tryd.f54
def IV:=Bo UJ
theorem aK:UJ=some IV:=Ak (by kernel_rfl)
abbrev Ti:=tr [(27,33),(44,51),(56,75),(77,90),(92,97),(99,110),(112,117),(119,126),(128,128),(136,138),(140,143),(145,146),(148,157),(159,165),(179,181),(183,197),(199,205),(207,216),(218,221),(223,226),(228,229),(242,251),(253,263),(265,275)] false [(2,VH 10),(27,VH 7),(39,VH 12),(58,VH 13)] 0 Proofs.Tryd.f55
def IQ:=Bo Ti
theorem aA:Ti=some IQ:=Ak (by kernel_rfl)
abbrev jc:=tr [(3,8)] false [] 0 Proofs.Tryd.f56
def Rq:=Bo jc
theorem yL:jc=some Rq:=Ak (by kernel_rfl)
abbrev jh:=tr [(9,29),(31,31),(36,47),(49,50),(55,72),(74,74),(79,83),(85,86)] false [] 0 Proofs.Tryd.f57
def Rx:=Bo jh
theorem yD:jh=some Rx:=Ak (by kernel_rfl)
abbrev aU:=tr [(8,47),(49,49),(54,70),(72,75),(80,107),(109,111)] false [] 0 Proofs.Tryd.f58
def O3:=Bo aU
theorem sQ:aU=some O3:=Ak (by kernel_rfl)
abbrev Y0:=tr [(13,27),(32,34),(36,37),(42,45),(47,48),(53,56),(58,59),(64,88),(90,91),(96,106),(108,108)] false [] 0 Proofs.Tryd.f59
def Nh:=Bo Y0
theorem qK:Y0=some Nh:=Ak (by kernel_rfl)
abbrev fJ:=tr [(6,8),(10,13),(15,17)] false [(6,VH 12)] 0 Proofs.Tryd.f60
def Qj:=Bo fJ
theorem vH:fJ=some Qj:=Ak (by kernel_rfl)
abbrev bM:=tr [(5,5)] false [] 0 Proofs.Tryd.f61
def Oy:=Bo bM
theorem tV:bM=some Oy:=Ak (by kernel_rfl)
abbrev wL:=tr [(5,6),(10,10),(29,31),(35,35),(54,54)] false [(4,VH 18),(10,VH 18)] 0 Proofs.Tryd.f62
def XA:=Bo wL
theorem AC4:wL=some XA:=Ak (by kernel_rfl)
abbrev bG:=tr [(8,8),(13,17),(19,22)] false [] 0 Proofs.Tryd.f63
def Ol:=Bo bG
theorem sK:bG=some Ol:=Ak (by kernel_rfl)
abbrev Lr:=tr [(6,9),(11,11),(15,15),(25,25)] false [(6,VH 9)] 0 Proofs.Tryd.f64
def ER:=Bo Lr
theorem VF:Lr=some ER:=Ak (by kernel_rfl)
abbrev PZ:=tr [(6,6),(10,15),(17,18)] false [] 0 Proofs.Tryd.f65
def Fz:=Bo PZ
theorem XY:PZ=some Fz:=Ak (by kernel_rfl)
abbrev zY:=tr [(3,22)] false [] 0 Proofs.Tryd.f66
def Yi:=Bo zY
theorem AFK:zY=some Yi:=Ak (by kernel_rfl)
abbrev fG:=tr [(3,22)] false [] 0 Proofs.Tryd.f67
def Qg:=Bo fG
theorem xC:fG=some Qg:=Ak (by kernel_rfl)
abbrev WA:=tr [(18,24),(26,33),(35,36),(62,62),(67,69),(86,86),(107,108),(113,115),(151,151),(153,162)] false [(6,VH 18),(8,VH 9),(14,opp [0,1,2,3,4,5,6,7,8,9,10,11,16,12,13,14,15,17,18]),(17,[(0,.plain),(1,.plain),(2,.plain),(3,.plain),(4,.plain),(5,.plain),(6,.plain),(7,.plain),(8,.plain),(9,.plain),(10,.plain),(11,.plain),(12,.wr)]),(18,VH 8),(23,opp [0,1,2,3,4,5,6,7,8,9,10,11,16,12,13,14,15,17,18]),(24,[(0,.plain),(1,.plain),(2,.plain),(3,.plain),(4,.plain),(5,.plain),(6,.plain),(7,.plain),(8,.plain),(9,.plain),(10,.plain),(11,.plain),(12,.wr)]),(25,VH 8)] 0 Proofs.Tryd.f70
def KD:=Bo WA
theorem iL:WA=some KD:=Ak (by kernel_rfl)
abbrev XL:=tr [] false [(1,opp [0,1,3,4,2,5,6,7])] 0 Proofs.Tryd.f71
def LQ:=Bo XL
theorem kG:XL=some LQ:=Ak (by kernel_rfl)
abbrev WO:=tr [(12,12),(15,15),(17,19),(22,26),(28,32),(34,38),(40,40),(65,70),(79,79),(81,97),(99,112),(114,125),(127,138),(140,186),(188,193),(195,200),(202,208),(210,219),(221,225)] false [(10,VH 24),(13,VH 9)] 0 Proofs.Tryd.f72
def KF:=Bo WO
theorem jO:WO=some KF:=Ak (by kernel_rfl)
abbrev VR:=tr [(7,13),(15,16)] false [] 0 Proofs.Tryd.f73
def JO:=Bo VR
theorem fD:VR=some JO:=Ak (by kernel_rfl)
abbrev aZ:=tr [(8,10),(15,30)] false [(3,VH 4)] 0 Proofs.Tryd.f77
def O5:=Bo aZ
theorem sG:aZ=some O5:=Ak (by kernel_rfl)
abbrev AA3:=tr [(1,1)] false [] 0 Proofs.Tryd.f79
def bY:=Bo AA3
theorem AF8:AA3=some bY:=Ak (by kernel_rfl)
abbrev qR:=tr [(1,1)] false [] 0 Proofs.Tryd.f81
def Vz:=Bo qR
theorem ABk:qR=some Vz:=Ak (by kernel_rfl)
abbrev bI:=tr [] false [(1,VH 12)] 0 Proofs.Tryd.f82
def Ou:=Bo bI
theorem uX:bI=some Ou:=Ak (by kernel_rfl)
abbrev jW:=tr [(3,5)] false [] 0 Proofs.Tryd.f83
def SB:=Bo jW
theorem yx:jW=some SB:=Ak (by kernel_rfl)
abbrev UC:=tr [(8,10),(15,20),(22,24)] false [] 0 Proofs.Tryd.f84
def IU:=Bo UC
theorem aI:UC=some IU:=Ak (by kernel_rfl)
abbrev Uw:=tr [(5,8),(10,14)] false [] 0 Proofs.Tryd.f85
def JA:=Bo Uw
theorem dn:Uw=some JA:=Ak (by kernel_rfl)
abbrev SK:=tr [(3,6)] false [] 0 Proofs.Tryd.f86
def Hl:=Bo SK
theorem ZW:SK=some Hl:=Ak (by kernel_rfl)
abbrev Rf:=tr [(4,5),(7,20)] false [] 0 Proofs.Tryd.f87
def Gt:=Bo Rf
theorem Yc:Rf=some Gt:=Ak (by kernel_rfl)
abbrev Q5:=tr [(5,12),(14,15)] false [] 0 Proofs.Tryd.f88
def Gp:=Bo Q5
theorem Ym:Q5=some Gp:=Ak (by kernel_rfl)
abbrev SN:=tr [(16,16),(26,26),(28,35),(37,43),(45,55),(57,62),(64,67),(69,76),(78,85),(87,88),(108,119),(124,148),(150,152),(154,158),(160,175),(177,179),(181,184),(212,213),(215,224),(226,230),(232,242)] false [(18,VH 17),(42,VH 28)] 0 Proofs.Tryd.f89
def Ht:=Bo SN
theorem Zn:SN=some Ht:=Ak (by kernel_rfl)
abbrev Iu:=tr [(5,8)] false [] 0 Proofs.Tryd.f90
def DN:=Bo Iu
theorem QE:Iu=some DN:=Ak (by kernel_rfl)
abbrev YK:=tr [(3,5)] false [] 0 Proofs.Tryd.f91
def MR:=Bo YK
theorem mO:YK=some MR:=Ak (by kernel_rfl)
abbrev qV:=tr [(3,10)] false [] 0 Proofs.Tryd.f92
def Vy:=Bo qV
theorem ABA:qV=some Vy:=Ak (by kernel_rfl)
abbrev zM:=tr [(3,6)] false [] 0 Proofs.Tryd.f93
def Yp:=Bo zM
theorem AFM:zM=some Yp:=Ak (by kernel_rfl)
abbrev YJ:=tr [(7,11),(13,17),(19,23),(25,29),(31,35),(37,39),(41,44)] false [] 0 Proofs.Tryd.f94
def L6:=Bo YJ
theorem nK:YJ=some L6:=Ak (by kernel_rfl)
abbrev qw:=tr [(10,13),(22,22),(31,31),(33,38),(48,48),(50,52)] false [(3,VH 8),(5,VH 8),(8,VH 10)] 0 Proofs.Tryd.f95
def Va:=Bo qw
theorem ACg:qw=some Va:=Ak (by kernel_rfl)
abbrev MH:=tr [(3,3),(5,7)] false [] 0 Proofs.Tryd.f96
def EP:=Bo MH
theorem VG:MH=some EP:=Ak (by kernel_rfl)
abbrev WJ:=tr [] false [(1,VH 11),(2,VH 12)] 0 Proofs.Tryd.f97
def KC:=Bo WJ
theorem jA:WJ=some KC:=Ak (by kernel_rfl)
abbrev YI:=tr [(6,12),(14,31)] false [] 0 Proofs.Tryd.f98
def MV:=Bo YI
theorem lM:YI=some MV:=Ak (by kernel_rfl)
abbrev XU:=tr [(9,12),(14,21),(46,54)] false [(5,VH 24)] 0 Proofs.Tryd.f99
def LM:=Bo XU
theorem kZ:XU=some LM:=Ak (by kernel_rfl)
abbrev U4:=tr [(13,13),(16,16),(32,32),(67,76),(106,106),(117,131),(133,133),(155,156),(167,172),(174,194),(196,205)] false [(3,VH 15),(5,VH 34),(11,VH 12),(12,VH 17),(14,VH 12),(17,VH 12),(18,opp [0,1,2,3,5,6,7,4,8,9,10]),(21,VH 12)] 0 Proofs.Tryd.f100
def I9:=Bo U4
theorem cZ:U4=some I9:=Ak (by kernel_rfl)
abbrev Y4:=tr [(8,17)] false [] 0 Proofs.Tryd.f103
def Nq:=Bo Y4
theorem qE:Y4=some Nq:=Ak (by kernel_rfl)
abbrev jr:=tr [(4,5)] false [] 0 Proofs.Tryd.f104
def Rt:=Bo jr
theorem xg:jr=some Rt:=Ak (by kernel_rfl)
abbrev SH:=tr [(9,14),(16,28),(43,48)] false [(4,VH 15)] 0 Proofs.Tryd.f105
def Hy:=Bo SH
theorem Zk:SH=some Hy:=Ak (by kernel_rfl)
abbrev SV:=tr [(16,24),(26,34),(36,42),(44,45),(47,48),(57,57),(60,68),(70,71),(87,87),(89,90),(104,112)] false [(11,VH 9),(17,VH 17),(20,VH 13),(23,VH 9),(24,VH 10)] 0 Proofs.Tryd.f106
def Hw:=Bo SV
theorem Zj:SV=some Hw:=Ak (by kernel_rfl)
abbrev U5:=tr [(12,13),(15,23),(25,33),(35,43),(45,48),(50,57),(59,69),(71,79),(81,89),(91,98)] false [] 0 Proofs.Tryd.f107
def JB:=Bo U5
theorem dL:U5=some JB:=Ak (by kernel_rfl)
abbrev Jp:=tr [(6,6),(10,15),(17,18)] false [] 0 Proofs.Tryd.f108
def Dq:=Bo Jp
theorem Ri:Jp=some Dq:=Ak (by kernel_rfl)
abbrev YH:=tr [(8,8),(11,16),(21,25),(27,28)] false [] 0 Proofs.Tryd.f109
def MO:=Bo YH
theorem mG:YH=some MO:=Ak (by kernel_rfl)
abbrev VP:=tr [(10,11),(13,17),(44,45)] false [(3,VH 17),(4,VH 12),(6,opp [0,1,2,3,4,5,7,6,8,9,10,11,12]),(7,VH 18)] 0 Proofs.Tryd.f110
def JX:=Bo VP
theorem gU:VP=some JX:=Ak (by kernel_rfl)
abbrev Si:=tr [(23,27),(29,33)] false [(1,VH 12)] 0 Proofs.Tryd.f111
def Hr:=Bo Si
theorem ZN:Si=some Hr:=Ak (by kernel_rfl)
def F:T AF:=(.n none (.n none (.n none (.n (some I4) (.n none (.n (some Vo) (.n (some Ol) .e .e) (.n (some Va) .e .e)) (.n (some NY) (.n (some bY) .e .e) (.n (some Hr) .e .e))) (.n none (.n (some bF) (.n (some LQ) .e .e) (.n (some Nq) .e .e)) (.n (some IQ) (.n (some Gt) .e .e) .e))) (.n none (.n (some NV) (.n (some UU) (.n (some Qg) .e .e) (.n (some LM) .e .e)) (.n none (.n (some SB) .e .e) .e)) (.n none (.n (some Na) .e (.n (some JB) .e .e)) (.n (some Nh) (.n (some MR) .e .e) .e)))) (.n none (.n none (.n (some Ot) (.n (some Ry) (.n (some Fz) .e .e) (.n (some KC) .e .e)) (.n (some LU) (.n (some Vz) .e .e) .e)) (.n (some Ql) (.n (some PN) (.n (some JO) .e .e) (.n (some Hy) .e .e)) (.n (some Rx) (.n (some Ht) .e .e) .e))) (.n (some Rw) (.n (some PI) (.n (some Ru) .e .e) (.n (some L8) (.n (some JA) .e .e) .e)) (.n (some jU) (.n (some SA) (.n (some O5) .e .e) (.n (some MO) .e .e)) (.n (some Oy) (.n (some Yp) .e .e) .e))))) (.n none (.n none (.n none (.n none (.n (some PG) (.n (some ER) .e .e) (.n (some EP) .e .e)) .e) (.n none (.n (some NW) (.n (some KF) .e .e) (.n (some Rt) .e .e)) (.n (some Rq) (.n (some Gp) .e .e) .e))) (.n none (.n none (.n none .e (.n (some I9) .e .e)) (.n none (.n (some IU) .e .e) .e)) (.n (some Nb) (.n (some Nk) .e (.n (some Dq) .e .e)) (.n (some Qj) (.n (some Vy) .e .e) .e)))) (.n none (.n none (.n (some Nj) (.n (some UO) (.n (some Yi) .e .e) (.n (some MV) .e .e)) (.n (some oP) (.n (some Ou) .e .e) .e)) (.n (some UR) (.n (some PD) .e (.n (some Hw) .e .e)) (.n (some O3) (.n (some DN) .e .e) .e))) (.n (some Yb) (.n none (.n (some Nl) (.n (some KD) .e .e) .e) (.n (some IV) (.n (some Hl) .e .e) .e)) (.n (some Iz) (.n (some Ea) .e (.n (some JX) .e .e)) (.n (some XA) (.n (some L6) .e .e) .e))))))
theorem NG:T.get F 7=some I4:=by kernel_rfl
theorem Wi:T.get F 13=some Rw:=by kernel_rfl
theorem iO:T.get F 14=some Yb:=by kernel_rfl
theorem UY:T.get F 17=some Ot:=by kernel_rfl
theorem TW:T.get F 18=some Nj:=by kernel_rfl
theorem TG:T.get F 19=some NV:=by kernel_rfl
theorem Ut:T.get F 21=some PI:=by kernel_rfl
theorem vg:T.get F 25=some Ql:=by kernel_rfl
theorem X6:T.get F 26=some UR:=by kernel_rfl
theorem Sz:T.get F 28=some Nb:=by kernel_rfl
theorem sJ:T.get F 29=some jU:=by kernel_rfl
theorem NH:T.get F 30=some Iz:=by kernel_rfl
theorem ABs:T.get F 31=some Vo:=by kernel_rfl
theorem rX:T.get F 32=some PG:=by kernel_rfl
theorem yC:T.get F 33=some Ry:=by kernel_rfl
theorem YA:T.get F 34=some UO:=by kernel_rfl
theorem X3:T.get F 35=some UU:=by kernel_rfl
theorem Wl:T.get F 37=some Ru:=by kernel_rfl
theorem TU:T.get F 38=some Nl:=by kernel_rfl
theorem lY:T.get F 39=some bF:=by kernel_rfl
theorem TL:T.get F 40=some NW:=by kernel_rfl
theorem UZ:T.get F 41=some PN:=by kernel_rfl
theorem Us:T.get F 42=some PD:=by kernel_rfl
theorem TP:T.get F 43=some Na:=by kernel_rfl
theorem TK:T.get F 44=some Nk:=by kernel_rfl
theorem WT:T.get F 45=some SA:=by kernel_rfl
theorem G9:T.get F 46=some Ea:=by kernel_rfl
theorem TS:T.get F 47=some NY:=by kernel_rfl
theorem QY:T.get F 49=some LU:=by kernel_rfl
theorem xk:T.get F 50=some oP:=by kernel_rfl
theorem RI:T.get F 53=some L8:=by kernel_rfl
theorem Ld:T.get F 54=some IV:=by kernel_rfl
theorem La:T.get F 55=some IQ:=by kernel_rfl
theorem Wh:T.get F 56=some Rq:=by kernel_rfl
theorem WQ:T.get F 57=some Rx:=by kernel_rfl
theorem Uk:T.get F 58=some O3:=by kernel_rfl
theorem Sl:T.get F 59=some Nh:=by kernel_rfl
theorem Vm:T.get F 60=some Qj:=by kernel_rfl
theorem Ua:T.get F 61=some Oy:=by kernel_rfl
theorem dw:T.get F 62=some XA:=by kernel_rfl
theorem Uo:T.get F 63=some Ol:=by kernel_rfl
theorem Gx:T.get F 64=some ER:=by kernel_rfl
theorem JI:T.get F 65=some Fz:=by kernel_rfl
theorem iR:T.get F 66=some Yi:=by kernel_rfl
theorem Vr:T.get F 67=some Qg:=by kernel_rfl
theorem PU:T.get F 70=some KD:=by kernel_rfl
theorem QK:T.get F 71=some LQ:=by kernel_rfl
theorem O7:T.get F 72=some KF:=by kernel_rfl
theorem Nz:T.get F 73=some JO:=by kernel_rfl
theorem Um:T.get F 77=some O5:=by kernel_rfl
theorem lg:T.get F 79=some bY:=by kernel_rfl
theorem Yz:T.get F 81=some Vz:=by kernel_rfl
theorem Uh:T.get F 82=some Ou:=by kernel_rfl
theorem WS:T.get F 83=some SB:=by kernel_rfl
theorem Le:T.get F 84=some IU:=by kernel_rfl
theorem NJ:T.get F 85=some JA:=by kernel_rfl
theorem ZJ:T.get F 86=some Hl:=by kernel_rfl
theorem J8:T.get F 87=some Gt:=by kernel_rfl
theorem J9:T.get F 88=some Gp:=by kernel_rfl
theorem KT:T.get F 89=some Ht:=by kernel_rfl
theorem EX:T.get F 90=some DN:=by kernel_rfl
theorem Qz:T.get F 91=some MR:=by kernel_rfl
theorem Zu:T.get F 92=some Vy:=by kernel_rfl
theorem jQ:T.get F 93=some Yp:=by kernel_rfl
theorem Qw:T.get F 94=some L6:=by kernel_rfl
theorem ZO:T.get F 95=some Va:=by kernel_rfl
theorem Gv:T.get F 96=some EP:=by kernel_rfl
theorem O8:T.get F 97=some KC:=by kernel_rfl
theorem RU:T.get F 98=some MV:=by kernel_rfl
theorem QZ:T.get F 99=some LM:=by kernel_rfl
theorem NC:T.get F 100=some I9:=by kernel_rfl
theorem TF:T.get F 103=some Nq:=by kernel_rfl
theorem Wp:T.get F 104=some Rt:=by kernel_rfl
theorem Ky:T.get F 105=some Hy:=by kernel_rfl
theorem KR:T.get F 106=some Hw:=by kernel_rfl
theorem ND:T.get F 107=some JB:=by kernel_rfl
theorem FM:T.get F 108=some Dq:=by kernel_rfl
theorem RD:T.get F 109=some MO:=by kernel_rfl
theorem OB:T.get F 110=some JX:=by kernel_rfl
theorem KO:T.get F 111=some Hr:=by kernel_rfl
abbrev Fg(n:Nat)(a:AF):Prop:=ABL Go.Proofs.Tryd.prog F n a
theorem ok1{n:Nat}{a:AF}{fn:Func}{loc:Nat->Bool}{df:Bool}{ords:AIO}{dg:Nat}(hf:Go.Proofs.Tryd.prog.funcs[n]? =some fn)(ht:trF Go.Proofs.Tryd.prog loc df ords dg fn=some a)(hn:(fn.name== "runtime.NumGoroutine")=false:=by kernel_rfl)(hd:a.dg=dg:=by kernel_rfl)(hi:AKC a.dp=true:=by kernel_rfl):Fg n a:=.one hf hn ht hd hi
theorem ZX:Fg 7 I4:=ok1 Proofs.Tryd.func7 dQ
theorem tX:Fg 13 Rw:=ok1 Proofs.Tryd.func13 yR
theorem ACI:Fg 14 Yb:=ok1 Proofs.Tryd.func14 AFE
theorem mM:Fg 17 Ot:=ok1 Proofs.Tryd.func17 uP
theorem kS:Fg 18 Nj:=ok1 Proofs.Tryd.func18 qM
theorem kC:Fg 19 NV:=ok1 Proofs.Tryd.func19 qG
theorem lW:Fg 21 PI:=ok1 Proofs.Tryd.func21 rJ
theorem qO:Fg 25 Ql:=ok1 Proofs.Tryd.func25 xB
theorem uw:Fg 26 UR:=ok1 Proofs.Tryd.func26 AAQ
theorem kW:Fg 28 Nb:=ok1 Proofs.Tryd.func28 qB
theorem AEx:Fg 29 jU:=ok1 Proofs.Tryd.func29 AIW
theorem Zg:Fg 30 Iz:=ok1 Proofs.Tryd.func30 dD
theorem xR:Fg 31 Vo:=ok1 Proofs.Tryd.func31 ACk
theorem mP:Fg 32 PG:=ok1 Proofs.Tryd.func32 tK
theorem sH:Fg 33 Ry:=ok1 Proofs.Tryd.func33 yc
theorem wY:Fg 34 UO:=ok1 Proofs.Tryd.func34 AAU
theorem wK:Fg 35 UU:=ok1 Proofs.Tryd.func35 AAa
theorem tZ:Fg 37 Ru:=ok1 Proofs.Tryd.func37 yB
theorem kQ:Fg 38 Nl:=ok1 Proofs.Tryd.func38 qJ
theorem AC8:Fg 39 bF:=ok1 Proofs.Tryd.func39 AGn
theorem kL:Fg 40 NW:=ok1 Proofs.Tryd.func40 pU
theorem nG:Fg 41 PN:=ok1 Proofs.Tryd.func41 sW
theorem nY:Fg 42 PD:=ok1 Proofs.Tryd.func42 sN
theorem kE:Fg 43 Na:=ok1 Proofs.Tryd.func43 pV
theorem kF:Fg 44 Nk:=ok1 Proofs.Tryd.func44 pY
theorem uY:Fg 45 SA:=ok1 Proofs.Tryd.func45 yZ
theorem Ug:Fg 46 Ea:=ok1 Proofs.Tryd.func46 Ve
theorem kP:Fg 47 NY:=ok1 Proofs.Tryd.func47 pR
theorem gG:Fg 49 LU:=ok1 Proofs.Tryd.func49 kJ
theorem AG6:Fg 50 oP:=ok1 Proofs.Tryd.func50 AKi
theorem iV:Fg 53 L8:=ok1 Proofs.Tryd.func53 lq
theorem Yl:Fg 54 IV:=ok1 Proofs.Tryd.func54 aK
theorem Yh:Fg 55 IQ:=ok1 Proofs.Tryd.func55 aA
theorem qy:Fg 56 Rq:=ok1 Proofs.Tryd.func56 yL
theorem su:Fg 57 Rx:=ok1 Proofs.Tryd.func57 yD
theorem ng:Fg 58 O3:=ok1 Proofs.Tryd.func58 sQ
theorem kM:Fg 59 Nh:=ok1 Proofs.Tryd.func59 qK
theorem qL:Fg 60 Qj:=ok1 Proofs.Tryd.func60 vH
theorem lF:Fg 61 Oy:=ok1 Proofs.Tryd.func61 tV
theorem AAd:Fg 62 XA:=ok1 Proofs.Tryd.func62 AC4
theorem lT:Fg 63 Ol:=ok1 Proofs.Tryd.func63 sK
theorem UA:Fg 64 ER:=ok1 Proofs.Tryd.func64 VF
theorem V7:Fg 65 Fz:=ok1 Proofs.Tryd.func65 XY
theorem ACB:Fg 66 Yi:=ok1 Proofs.Tryd.func66 AFK
theorem qA:Fg 67 Qg:=ok1 Proofs.Tryd.func67 xC
theorem dM:Fg 70 KD:=ok1 Proofs.Tryd.func70 iL
theorem fE:Fg 71 LQ:=ok1 Proofs.Tryd.func71 kG
theorem dB:Fg 72 KF:=ok1 Proofs.Tryd.func72 jO
theorem aN:Fg 73 JO:=ok1 Proofs.Tryd.func73 fD
theorem oM:Fg 77 O5:=ok1 Proofs.Tryd.func77 sG
theorem ADJ:Fg 79 bY:=ok1 Proofs.Tryd.func79 AF8
theorem xQ:Fg 81 Vz:=ok1 Proofs.Tryd.func81 ABk
theorem lU:Fg 82 Ou:=ok1 Proofs.Tryd.func82 uX
theorem uK:Fg 83 SB:=ok1 Proofs.Tryd.func83 yx
theorem Yg:Fg 84 IU:=ok1 Proofs.Tryd.func84 aI
theorem Y5:Fg 85 JA:=ok1 Proofs.Tryd.func85 dn
theorem YC:Fg 86 Hl:=ok1 Proofs.Tryd.func86 ZW
theorem Xb:Fg 87 Gt:=ok1 Proofs.Tryd.func87 Yc
theorem XM:Fg 88 Gp:=ok1 Proofs.Tryd.func88 Ym
theorem YE:Fg 89 Ht:=ok1 Proofs.Tryd.func89 Zn
theorem PO:Fg 90 DN:=ok1 Proofs.Tryd.func90 QE
theorem jM:Fg 91 MR:=ok1 Proofs.Tryd.func91 mO
theorem xI:Fg 92 Vy:=ok1 Proofs.Tryd.func92 ABA
theorem ACd:Fg 93 Yp:=ok1 Proofs.Tryd.func93 AFM
theorem jI:Fg 94 L6:=ok1 Proofs.Tryd.func94 nK
theorem yg:Fg 95 Va:=ok1 Proofs.Tryd.func95 ACg
theorem Tn:Fg 96 EP:=ok1 Proofs.Tryd.func96 VG
theorem dU:Fg 97 KC:=ok1 Proofs.Tryd.func97 jA
theorem ig:Fg 98 MV:=ok1 Proofs.Tryd.func98 lM
theorem gJ:Fg 99 LM:=ok1 Proofs.Tryd.func99 kZ
theorem Y9:Fg 100 I9:=ok1 Proofs.Tryd.func100 cZ
theorem jy:Fg 103 Nq:=ok1 Proofs.Tryd.func103 qE
theorem rY:Fg 104 Rt:=ok1 Proofs.Tryd.func104 xg
theorem Xx:Fg 105 Hy:=ok1 Proofs.Tryd.func105 Zk
theorem X4:Fg 106 Hw:=ok1 Proofs.Tryd.func106 Zj
theorem Y8:Fg 107 JB:=ok1 Proofs.Tryd.func107 dL
theorem Qo:Fg 108 Dq:=ok1 Proofs.Tryd.func108 Ri
theorem iT:Fg 109 MO:=ok1 Proofs.Tryd.func109 mG
theorem aH:Fg 110 JX:=ok1 Proofs.Tryd.func110 gU
theorem X0:Fg 111 Hr:=ok1 Proofs.Tryd.func111 ZN
theorem all_good:T.All (λp af=>ABL Go.Proofs.Tryd.prog F p.key af) F:=(.n0 (.n0 (.n0 (.n1 ZX (.n0 (.n1 xR (.n1 lT .e .e) (.n1 yg .e .e)) (.n1 kP (.n1 ADJ .e .e) (.n1 X0 .e .e))) (.n0 (.n1 AC8 (.n1 fE .e .e) (.n1 jy .e .e)) (.n1 Yh (.n1 Xb .e .e) .e))) (.n0 (.n1 kC (.n1 wK (.n1 qA .e .e) (.n1 gJ .e .e)) (.n0 (.n1 uK .e .e) .e)) (.n0 (.n1 kE .e (.n1 Y8 .e .e)) (.n1 kM (.n1 jM .e .e) .e)))) (.n0 (.n0 (.n1 mM (.n1 sH (.n1 V7 .e .e) (.n1 dU .e .e)) (.n1 gG (.n1 xQ .e .e) .e)) (.n1 qO (.n1 nG (.n1 aN .e .e) (.n1 Xx .e .e)) (.n1 su (.n1 YE .e .e) .e))) (.n1 tX (.n1 lW (.n1 tZ .e .e) (.n1 iV (.n1 Y5 .e .e) .e)) (.n1 AEx (.n1 uY (.n1 oM .e .e) (.n1 iT .e .e)) (.n1 lF (.n1 ACd .e .e) .e))))) (.n0 (.n0 (.n0 (.n0 (.n1 mP (.n1 UA .e .e) (.n1 Tn .e .e)) .e) (.n0 (.n1 kL (.n1 dB .e .e) (.n1 rY .e .e)) (.n1 qy (.n1 XM .e .e) .e))) (.n0 (.n0 (.n0 .e (.n1 Y9 .e .e)) (.n0 (.n1 Yg .e .e) .e)) (.n1 kW (.n1 kF .e (.n1 Qo .e .e)) (.n1 qL (.n1 xI .e .e) .e)))) (.n0 (.n0 (.n1 kS (.n1 wY (.n1 ACB .e .e) (.n1 ig .e .e)) (.n1 AG6 (.n1 lU .e .e) .e)) (.n1 uw (.n1 nY .e (.n1 X4 .e .e)) (.n1 ng (.n1 PO .e .e) .e))) (.n1 ACI (.n0 (.n1 kQ (.n1 dM .e .e) .e) (.n1 Yl (.n1 YC .e .e) .e)) (.n1 Zg (.n1 Ug .e (.n1 aH .e .e)) (.n1 AAd (.n1 jI .e .e) .e))))))
theorem AR4:ACD Go.Proofs.Tryd.prog F:=.ASp (by kernel_rfl) all_good
end Go.RL
