/- Part of a proof; nothing is assumed. -/
import Derived.Test.YtibbhhkcjjeclaaDoorEngA
import Derived.Test.YtibbhhkcjjeclaaDoorEngF
import Derived.Test.YtibbhhkcjjeclaaDoorProg
set_option linter.unusedVariables false
set_option linter.unusedSimpArgs false
noncomputable section
namespace Go.RL
open Go.Bh
def q0:P2:=.h
def q1:P2:=.z q0
def q2:P2:=.o q0
def q3:P2:=.z q1
def q4:P2:=.o q1
def q5:P2:=.z q2
def q6:P2:=.o q2
def q7:P2:=.z q3
def q8:P2:=.o q3
def q9:P2:=.z q4
def q10:P2:=.o q4
def q11:P2:=.z q5
def q12:P2:=.o q5
def q13:P2:=.z q6
def q14:P2:=.o q6
def q15:P2:=.z q7
def q16:P2:=.o q7
def q17:P2:=.z q8
def q18:P2:=.o q8
def q19:P2:=.z q9
def q20:P2:=.o q9
def q21:P2:=.z q10
def q22:P2:=.o q10
def q23:P2:=.z q11
def q24:P2:=.o q11
def q25:P2:=.z q12
def q26:P2:=.o q12
def q27:P2:=.z q13
def q28:P2:=.o q13
def q29:P2:=.z q14
def q30:P2:=.o q14
def q31:P2:=.z q15
def q32:P2:=.o q15
def q33:P2:=.z q16
def q34:P2:=.o q16
def q36:P2:=.o q17
def q37:P2:=.z q18
def q38:P2:=.o q18
def q39:P2:=.z q19
def q40:P2:=.o q19
def q41:P2:=.z q20
def q42:P2:=.o q20
def q43:P2:=.z q21
def q44:P2:=.o q21
def q45:P2:=.z q22
def q46:P2:=.o q22
def q47:P2:=.z q23
def q48:P2:=.o q23
def q49:P2:=.z q24
def q50:P2:=.o q24
def q51:P2:=.z q25
def q52:P2:=.o q25
def q53:P2:=.z q26
def q54:P2:=.o q26
def q55:P2:=.z q27
def q57:P2:=.z q28
def q59:P2:=.z q29
def q60:P2:=.o q29
def q61:P2:=.z q30
def q62:P2:=.o q30
def q63:P2:=.z q31
def q64:P2:=.o q31
def q65:P2:=.z q32
def q66:P2:=.o q32
def q67:P2:=.z q33
def q68:P2:=.o q33
def q69:P2:=.z q34
def q73:P2:=.z q36
def q74:P2:=.o q36
def q75:P2:=.z q37
def q76:P2:=.o q37
def q77:P2:=.z q38
def q78:P2:=.o q38
def q80:P2:=.o q39
def q83:P2:=.z q41
def q84:P2:=.o q41
def q85:P2:=.z q42
def q89:P2:=.z q44
def q90:P2:=.o q44
def q92:P2:=.o q45
def q93:P2:=.z q46
def q94:P2:=.o q46
def q98:P2:=.o q48
def AQf:P2:=.o q51
def AQZ:P2:=.z q52
def APX:P2:=.o q52
def AUM:P2:=.z q54
def ATb:P2:=.o q54
def AT2:P2:=.z q55
def AUc:P2:=.z q57
def AUW:P2:=.o q59
def AUg:P2:=.z q60
def AUI:P2:=.o q60
def AUn:P2:=.z q69
def ATz:P2:=.o q76
def ATt:P2:=.o q89
def ATk:P2:=.o q90
def AUL:P2:=.z AUc
abbrev eY:Nat:=9
abbrev lG:Nat:=14
abbrev Zu:Nat:=17
abbrev YC:Nat:=18
abbrev Dj:Nat:=19
abbrev Zw:Nat:=21
abbrev Vb:Nat:=25
abbrev Us:Nat:=26
abbrev Kv:Nat:=29
abbrev NH:Nat:=30
abbrev MH:Nat:=31
abbrev Zn:Nat:=32
abbrev TI:Nat:=33
abbrev Yl:Nat:=34
abbrev U5:Nat:=35
abbrev Yh:Nat:=38
abbrev AAN:Nat:=39
abbrev YW:Nat:=40
abbrev Zg:Nat:=41
abbrev Ed:Nat:=42
abbrev TQ:Nat:=43
abbrev UA:Nat:=44
abbrev TF:Nat:=45
abbrev Ep:Nat:=46
abbrev Jz:Nat:=47
abbrev Qp:Nat:=49
abbrev LG:Nat:=50
abbrev SA:Nat:=53
abbrev Iy:Nat:=54
abbrev Lu:Nat:=55
abbrev Ws:Nat:=56
abbrev VI:Nat:=58
abbrev Yw:Nat:=59
abbrev dL:Nat:=60
abbrev ZQ:Nat:=61
abbrev rW:Nat:=62
abbrev ZV:Nat:=63
abbrev LX:Nat:=64
abbrev PE:Nat:=65
abbrev QY:Nat:=66
abbrev CY:Nat:=67
abbrev EY:Nat:=70
abbrev QS:Nat:=71
abbrev VQ:Nat:=72
abbrev FB:Nat:=73
abbrev Zx:Nat:=77
abbrev og:Nat:=79
abbrev Iu:Nat:=81
abbrev Fe:Nat:=82
abbrev XK:Nat:=83
abbrev SS:Nat:=84
abbrev BH:Nat:=85
abbrev FU:Nat:=86
abbrev BU:Nat:=87
abbrev Dz:Nat:=88
abbrev RP:Nat:=89
abbrev Em:Nat:=90
abbrev Ry:Nat:=91
abbrev Vt:Nat:=92
abbrev xO:Nat:=93
abbrev RY:Nat:=94
abbrev aU:Nat:=95
abbrev Gs:Nat:=96
abbrev Ar:Nat:=97
abbrev EX:Nat:=98
abbrev A8:Nat:=99
abbrev UJ:Nat:=100
abbrev OQ:Nat:=103
abbrev Hy:Nat:=104
abbrev FW:Nat:=105
abbrev RH:Nat:=106
abbrev UW:Nat:=107
abbrev JY:Nat:=108
abbrev Xc:Nat:=109
abbrev U1:Nat:=110
abbrev RX:Nat:=111
end Go.RL
namespace Go.RL
open Go.Bh
set_option maxRecDepth 100000
abbrev tr(l:List (Nat×Nat))(d:Bool)(o:AHL)(g:Nat)(f:Func):Option AF:=trF Go.Proofs.Tryd.prog (inR l) d o g f
abbrev Un:=tr [(17,17),(19,25),(27,31),(35,46),(49,54),(56,62),(64,86),(88,92),(103,111)] false [(28,Ud 10)] 0 Proofs.Tryd.f9
def JJ:=Bj Un
theorem dA:Un=some JJ:=Ak (by kernel_rfl)
abbrev wM:=tr [(13,14),(16,18),(23,24),(37,39),(41,41),(62,72),(77,78),(87,87),(89,93),(95,96)] false [(8,Ud 14),(13,Ud 9),(14,Ud 13),(21,Ud 9)] 0 Proofs.Tryd.f14
def Xq:=Bj wM
theorem ADX:wM=some Xq:=Ak (by kernel_rfl)
abbrev ZU:=tr [(11,11),(28,52),(54,55)] false [(1,Ud 12)] 0 Proofs.Tryd.f17
def OH:=Bj ZU
theorem qI:ZU=some OH:=Ak (by kernel_rfl)
abbrev YZ:=tr [(3,3),(5,9)] false [] 0 Proofs.Tryd.f18
def MW:=Bj YZ
theorem mP:YZ=some MW:=Ak (by kernel_rfl)
abbrev Yb:=tr [(9,9),(11,22),(24,24),(31,31)] false [(6,[(0,.plain),(1,.plain),(2,.plain),(4,.plain),(5,.plain),(3,.plain),(6,.wr),(7,.wr)])] 0 Proofs.Tryd.f19
def MP:=Bj Yb
theorem mJ:Yb=some MP:=Ak (by kernel_rfl)
abbrev ZW:=tr [(8,8),(10,21)] false [] 0 Proofs.Tryd.f21
def Oa:=Bj ZW
theorem qR:ZW=some Oa:=Ak (by kernel_rfl)
abbrev dN:=tr [(3,25)] false [] 0 Proofs.Tryd.f25
def QA:=Bj dN
theorem tN:dN=some QA:=Ak (by kernel_rfl)
abbrev jF:=tr [(6,6),(11,11),(16,25),(30,32),(43,45),(47,54)] false [(8,Ud 11)] 0 Proofs.Tryd.f26
def TL:=Bj jF
theorem yZ:jF=some TL:=Ak (by kernel_rfl)
abbrev ACB:=tr [(1,1)] false [] 0 Proofs.Tryd.f29
def gG:=Bj ACB
theorem AHI:ACB=some gG:=Ak (by kernel_rfl)
abbrev UL:=tr [(9,9),(11,11),(19,38),(40,44),(49,65),(67,67)] false [(15,Ud 12)] 0 Proofs.Tryd.f30
def I5:=Bj UL
theorem aF:UL=some I5:=Ak (by kernel_rfl)
abbrev oG:=tr [(5,7)] false [] 0 Proofs.Tryd.f31
def Ug:=Bj oG
theorem zZ:oG=some Ug:=Ak (by kernel_rfl)
abbrev Zl:=tr [(5,10),(12,15)] false [] 0 Proofs.Tryd.f32
def OW:=Bj Zl
theorem pK:Zl=some OW:=Ak (by kernel_rfl)
abbrev gK:=tr [(7,37)] false [] 0 Proofs.Tryd.f33
def Qy:=Bj gK
theorem vV:gK=some Qy:=Ak (by kernel_rfl)
abbrev jc:=tr [(3,4),(6,9)] false [] 0 Proofs.Tryd.f34
def TG:=Bj jc
theorem yP:jc=some TG:=Ak (by kernel_rfl)
abbrev jh:=tr [(3,8)] false [] 0 Proofs.Tryd.f35
def TJ:=Bj jh
theorem yS:jh=some TJ:=Ak (by kernel_rfl)
abbrev YN:=tr [(9,27),(29,29),(34,47),(49,80),(82,82),(87,88),(95,96)] false [(15,Ud 6)] 0 Proofs.Tryd.f38
def MX:=Bj YN
theorem mO:YN=some MX:=Ak (by kernel_rfl)
abbrev AAZ:=tr [(6,9),(14,15),(23,24)] false [(5,Ud 8)] 0 Proofs.Tryd.f39
def Zd:=Bj AAZ
theorem AFX:AAZ=some Zd:=Ak (by kernel_rfl)
abbrev YX:=tr [(10,10),(13,14),(18,18),(21,31),(33,49),(51,59),(61,62),(64,66),(71,77),(79,88),(90,91),(96,105),(107,127),(129,129)] false [] 0 Proofs.Tryd.f40
def ND:=Bj YX
theorem nM:YX=some ND:=Ak (by kernel_rfl)
abbrev Zc:=tr [(14,14),(16,16),(21,22),(32,32),(41,41),(46,47),(62,69),(71,72),(77,85),(87,87)] false [(4,Ud 9),(7,Ud 8),(12,opp [0,1,2,3,4,5,6,7,8,14,9,10,11,12,13,15,16,17])] 0 Proofs.Tryd.f41
def OY:=Bj Zc
theorem qF:Zc=some OY:=Ak (by kernel_rfl)
abbrev Zp:=tr [(8,8),(10,26)] false [] 0 Proofs.Tryd.f42
def OV:=Bj Zp
theorem oQ:Zp=some OV:=Ak (by kernel_rfl)
abbrev ZC:=tr [(10,10),(14,14),(17,22),(27,40),(44,45)] false [(8,Ud 5)] 0 Proofs.Tryd.f43
def Me:=Bj ZC
theorem mg:ZC=some Me:=Ak (by kernel_rfl)
abbrev Ym:=tr [(8,8),(13,17),(19,21)] false [] 0 Proofs.Tryd.f44
def NG:=Bj Ym
theorem mW:Ym=some NG:=Ak (by kernel_rfl)
abbrev iG:=tr [(5,30)] false [] 0 Proofs.Tryd.f45
def Qu:=Bj iG
theorem uY:iG=some Qu:=Ak (by kernel_rfl)
abbrev ML:=tr [(5,8)] false [] 0 Proofs.Tryd.f46
def Ef:=Bj ML
theorem U2:ML=some Ef:=Ak (by kernel_rfl)
abbrev Yn:=tr [(7,7),(13,16),(18,20),(22,29),(31,31)] false [] 0 Proofs.Tryd.f47
def MQ:=Bj Yn
theorem nC:Yn=some MQ:=Ak (by kernel_rfl)
abbrev WT:=tr [(8,19),(41,58),(86,106),(108,123),(125,140),(142,146)] false [(4,Ud 11),(6,Ud 10),(10,Ud 13),(11,Ud 15)] 0 Proofs.Tryd.f49
def KR:=Bj WT
theorem iI:WT=some KR:=Ak (by kernel_rfl)
abbrev AFw:=tr [(3,4)] false [] 0 Proofs.Tryd.f50
def lq:=Bj AFw
theorem AJN:AFw=some lq:=Ak (by kernel_rfl)
abbrev Xe:=tr [(12,12),(16,16),(19,24),(29,48),(52,53)] false [(8,Ud 5)] 0 Proofs.Tryd.f53
def LP:=Bj Xe
theorem jo:Xe=some LP:=Ak (by kernel_rfl)
abbrev Sz:=tr [(10,10),(17,25),(30,38),(40,41),(46,57),(65,68)] false [(11,Ud 9)] 0 Proofs.Tryd.f54
def II:=Bj Sz
theorem ZJ:Sz=some II:=Ak (by kernel_rfl)
abbrev SY:=tr [(27,33),(44,51),(56,75),(77,90),(92,97),(99,110),(112,117),(119,126),(128,128),(136,138),(140,143),(145,146),(148,157),(159,165),(179,181),(183,197),(199,205),(207,216),(218,221),(223,226),(228,229),(242,251),(253,263),(265,275)] false [(2,Ud 10),(27,Ud 7),(39,Ud 12),(58,Ud 13)] 0 Proofs.Tryd.f55
def IK:=Bj SY
theorem ZL:SY=some IK:=Ak (by kernel_rfl)
abbrev gU:=tr [(3,8)] false [] 0 Proofs.Tryd.f56
def Q8:=Bj gU
theorem vN:gU=some Q8:=Ak (by kernel_rfl)
abbrev ZT:=tr [(8,47),(49,49),(54,70),(72,75),(80,107),(109,111)] false [] 0 Proofs.Tryd.f58
def Oo:=Bj ZT
theorem oz:ZT=some Oo:=Ak (by kernel_rfl)
abbrev Yz:=tr [(13,27),(32,34),(36,37),(42,45),(47,48),(53,56),(58,59),(64,88),(90,91),(96,106),(108,108)] false [] 0 Proofs.Tryd.f59
def MZ:=Bj Yz
theorem nD:Yz=some MZ:=Ak (by kernel_rfl)
abbrev bD:=tr [(6,8),(10,13),(15,17)] false [(6,Ud 12)] 0 Proofs.Tryd.f60
def P9:=Bj bD
theorem sW:bD=some P9:=Ak (by kernel_rfl)
abbrev Zk:=tr [(5,5)] false [] 0 Proofs.Tryd.f61
def OD:=Bj Zk
theorem qN:Zk=some OD:=Ak (by kernel_rfl)
abbrev rX:=tr [(5,6),(10,10),(29,31),(35,35),(54,54)] false [(4,Ud 18),(10,Ud 18)] 0 Proofs.Tryd.f62
def Vz:=Bj rX
theorem ABx:rX=some Vz:=Ak (by kernel_rfl)
abbrev Zb:=tr [(8,8),(13,17),(19,22)] false [] 0 Proofs.Tryd.f63
def OX:=Bj Zb
theorem qC:Zb=some OX:=Ak (by kernel_rfl)
abbrev LZ:=tr [(6,9),(11,11),(15,15),(25,25)] false [(6,Ud 9)] 0 Proofs.Tryd.f64
def ES:=Bj LZ
theorem Ub:LZ=some ES:=Ak (by kernel_rfl)
abbrev O0:=tr [(6,6),(10,15),(17,18)] false [] 0 Proofs.Tryd.f65
def Fh:=Bj O0
theorem V6:O0=some Fh:=Ak (by kernel_rfl)
abbrev wH:=tr [(3,22)] false [] 0 Proofs.Tryd.f66
def Xx:=Bj wH
theorem ADM:wH=some Xx:=Ak (by kernel_rfl)
abbrev bM:=tr [(3,22)] false [] 0 Proofs.Tryd.f67
def P7:=Bj bM
theorem sD:bM=some P7:=Ak (by kernel_rfl)
abbrev VO:=tr [(18,24),(26,33),(35,36),(62,62),(67,69),(86,86),(107,108),(113,115),(151,151),(153,162)] false [(6,Ud 18),(8,Ud 9),(14,opp [0,1,2,3,4,5,6,7,8,9,10,11,16,12,13,14,15,17,18]),(17,[(0,.plain),(1,.plain),(2,.plain),(3,.plain),(4,.plain),(5,.plain),(6,.plain),(7,.plain),(8,.plain),(9,.plain),(10,.plain),(11,.plain),(12,.wr)]),(18,Ud 8),(23,opp [0,1,2,3,4,5,6,7,8,9,10,11,16,12,13,14,15,17,18]),(24,[(0,.plain),(1,.plain),(2,.plain),(3,.plain),(4,.plain),(5,.plain),(6,.plain),(7,.plain),(8,.plain),(9,.plain),(10,.plain),(11,.plain),(12,.wr)]),(25,Ud 8)] 0 Proofs.Tryd.f70
def Jv:=Bj VO
theorem fG:VO=some Jv:=Ak (by kernel_rfl)
abbrev Wi:=tr [] false [(1,opp [0,1,3,4,2,5,6,7])] 0 Proofs.Tryd.f71
def KN:=Bj Wi
theorem iK:Wi=some KN:=Ak (by kernel_rfl)
abbrev VP:=tr [(12,12),(15,15),(17,19),(22,26),(28,32),(34,38),(40,40),(65,70),(79,79),(81,97),(99,112),(114,125),(127,138),(140,186),(188,193),(195,200),(202,208),(210,219),(221,225)] false [(10,Ud 24),(13,Ud 9)] 0 Proofs.Tryd.f72
def Jt:=Bj VP
theorem fJ:VP=some Jt:=Ak (by kernel_rfl)
abbrev Ur:=tr [(7,13),(15,16)] false [] 0 Proofs.Tryd.f73
def JM:=Bj Ur
theorem cZ:Ur=some JM:=Ak (by kernel_rfl)
abbrev ZP:=tr [(8,10),(15,30)] false [(3,Ud 4)] 0 Proofs.Tryd.f77
def Oq:=Bj ZP
theorem qO:ZP=some Oq:=Ak (by kernel_rfl)
abbrev ABB:=tr [(1,1)] false [] 0 Proofs.Tryd.f79
def Zt:=Bj ABB
theorem AF0:ABB=some Zt:=Ak (by kernel_rfl)
abbrev oJ:=tr [(1,1)] false [] 0 Proofs.Tryd.f81
def VF:=Bj oJ
theorem AAv:oJ=some VF:=Ak (by kernel_rfl)
abbrev ZY:=tr [] false [(1,Ud 12)] 0 Proofs.Tryd.f82
def Ob:=Bj ZY
theorem qH:ZY=some Ob:=Ak (by kernel_rfl)
abbrev iF:=tr [(3,5)] false [] 0 Proofs.Tryd.f83
def Qw:=Bj iF
theorem vZ:iF=some Qw:=Ak (by kernel_rfl)
abbrev SK:=tr [(8,10),(15,20),(22,24)] false [] 0 Proofs.Tryd.f84
def IJ:=Bj SK
theorem ZN:SK=some IJ:=Ak (by kernel_rfl)
abbrev UR:=tr [(5,8),(10,14)] false [] 0 Proofs.Tryd.f85
def Iw:=Bj UR
theorem aH:UR=some Iw:=Ak (by kernel_rfl)
abbrev RN:=tr [(3,6)] false [] 0 Proofs.Tryd.f86
def Gx:=Bj RN
theorem Y6:RN=some Gx:=Ak (by kernel_rfl)
abbrev QX:=tr [(4,5),(7,20)] false [] 0 Proofs.Tryd.f87
def Gi:=Bj QX
theorem Xm:QX=some Gi:=Ak (by kernel_rfl)
abbrev Qm:=tr [(5,12),(14,15)] false [] 0 Proofs.Tryd.f88
def Gj:=Bj Qm
theorem X0:Qm=some Gj:=Ak (by kernel_rfl)
abbrev RG:=tr [(16,16),(26,26),(28,35),(37,43),(45,55),(57,62),(64,67),(69,76),(78,85),(87,88),(108,119),(124,148),(150,152),(154,158),(160,175),(177,179),(181,184),(212,213),(215,224),(226,230),(232,242)] false [(18,Ud 17),(42,Ud 28)] 0 Proofs.Tryd.f89
def Gw:=Bj RG
theorem YV:RG=some Gw:=Ak (by kernel_rfl)
abbrev Ip:=tr [(5,8)] false [] 0 Proofs.Tryd.f90
def DJ:=Bj Ip
theorem Px:Ip=some DJ:=Ak (by kernel_rfl)
abbrev XY:=tr [(3,5)] false [] 0 Proofs.Tryd.f91
def Ld:=Bj XY
theorem kD:XY=some Ld:=Ak (by kernel_rfl)
abbrev oP:=tr [(3,10)] false [] 0 Proofs.Tryd.f92
def VA:=Bj oP
theorem ABF:oP=some VA:=Ak (by kernel_rfl)
abbrev yG:=tr [(3,6)] false [] 0 Proofs.Tryd.f93
def Xt:=Bj yG
theorem AEB:yG=some Xt:=Ak (by kernel_rfl)
abbrev XU:=tr [(7,11),(13,17),(19,23),(25,29),(31,35),(37,39),(41,44)] false [] 0 Proofs.Tryd.f94
def Ll:=Bj XU
theorem jd:XU=some Ll:=Ak (by kernel_rfl)
abbrev nU:=tr [(10,13),(22,22),(31,31),(33,38),(48,48),(50,52)] false [(3,Ud 8),(5,Ud 8),(8,Ud 10)] 0 Proofs.Tryd.f95
def U9:=Bj nU
theorem AA4:nU=some U9:=Ak (by kernel_rfl)
abbrev LK:=tr [(3,3),(5,7)] false [] 0 Proofs.Tryd.f96
def EP:=Bj LK
theorem UZ:LK=some EP:=Ak (by kernel_rfl)
abbrev VR:=tr [] false [(1,Ud 11),(2,Ud 12)] 0 Proofs.Tryd.f97
def Jp:=Bj VR
theorem gI:VR=some Jp:=Ak (by kernel_rfl)
abbrev XV:=tr [(6,12),(14,31)] false [] 0 Proofs.Tryd.f98
def Lm:=Bj XV
theorem jq:XV=some Lm:=Ak (by kernel_rfl)
abbrev WE:=tr [(9,12),(14,21),(46,54)] false [(5,Ud 24)] 0 Proofs.Tryd.f99
def KQ:=Bj WE
theorem iq:WE=some KQ:=Ak (by kernel_rfl)
abbrev UE:=tr [(13,13),(16,16),(32,32),(67,76),(106,106),(117,131),(133,133),(155,156),(167,172),(174,194),(196,205)] false [(3,Ud 15),(5,Ud 34),(11,Ud 12),(12,Ud 17),(14,Ud 12),(17,Ud 12),(18,opp [0,1,2,3,5,6,7,4,8,9,10]),(21,Ud 12)] 0 Proofs.Tryd.f100
def I4:=Bj UE
theorem aW:UE=some I4:=Ak (by kernel_rfl)
abbrev YP:=tr [(8,17)] false [] 0 Proofs.Tryd.f103
def MO:=Bj YP
theorem mY:YP=some MO:=Ak (by kernel_rfl)
abbrev iD:=tr [(4,5)] false [] 0 Proofs.Tryd.f104
def Qz:=Bj iD
theorem wF:iD=some Qz:=Ak (by kernel_rfl)
abbrev RD:=tr [(9,14),(16,28),(43,48)] false [(4,Ud 15)] 0 Proofs.Tryd.f105
def Hq:=Bj RD
theorem Y9:RD=some Hq:=Ak (by kernel_rfl)
abbrev RU:=tr [(16,24),(26,34),(36,42),(44,45),(47,48),(57,57),(60,68),(70,71),(87,87),(89,90),(104,112)] false [(11,Ud 9),(17,Ud 17),(20,Ud 13),(23,Ud 9),(24,Ud 10)] 0 Proofs.Tryd.f106
def HY:=Bj RU
theorem YH:RU=some HY:=Ak (by kernel_rfl)
abbrev UD:=tr [(12,13),(15,23),(25,33),(35,43),(45,48),(50,57),(59,69),(71,79),(81,89),(91,98)] false [] 0 Proofs.Tryd.f107
def Iz:=Bj UD
theorem aV:UD=some Iz:=Ak (by kernel_rfl)
abbrev Jb:=tr [(6,6),(10,15),(17,18)] false [] 0 Proofs.Tryd.f108
def Dp:=Bj Jb
theorem Q9:Jb=some Dp:=Ak (by kernel_rfl)
abbrev XW:=tr [(8,8),(11,16),(21,25),(27,28)] false [] 0 Proofs.Tryd.f109
def LJ:=Bj XW
theorem kJ:XW=some LJ:=Ak (by kernel_rfl)
abbrev Uz:=tr [(10,11),(13,17),(44,45)] false [(3,Ud 17),(4,Ud 12),(6,opp [0,1,2,3,4,5,7,6,8,9,10,11,12]),(7,Ud 18)] 0 Proofs.Tryd.f110
def JR:=Bj Uz
theorem bZ:Uz=some JR:=Ak (by kernel_rfl)
abbrev RF:=tr [(23,27),(29,33)] false [(1,Ud 12)] 0 Proofs.Tryd.f111
def Gu:=Bj RF
theorem Y3:RF=some Gu:=Ak (by kernel_rfl)
def F:T AF:=(.n none (.n none (.n none (.n none (.n none (.n (some Ug) (.n (some OX) .e .e) (.n (some U9) .e .e)) (.n (some MQ) (.n (some Zt) .e .e) (.n (some Gu) .e .e))) (.n none (.n (some Zd) (.n (some KN) .e .e) (.n (some MO) .e .e)) (.n (some IK) (.n (some Gi) .e .e) .e))) (.n none (.n (some MP) (.n (some TJ) (.n (some P7) .e .e) (.n (some KQ) .e .e)) (.n none (.n (some Qw) .e .e) .e)) (.n none (.n (some Me) .e (.n (some Iz) .e .e)) (.n (some MZ) (.n (some Ld) .e .e) .e)))) (.n none (.n (some JJ) (.n (some OH) (.n (some Qy) (.n (some Fh) .e .e) (.n (some Jp) .e .e)) (.n (some KR) (.n (some VF) .e .e) .e)) (.n (some QA) (.n (some OY) (.n (some JM) .e .e) (.n (some Hq) .e .e)) (.n none (.n (some Gw) .e .e) .e))) (.n none (.n (some Oa) .e (.n (some LP) (.n (some Iw) .e .e) .e)) (.n (some gG) (.n (some Qu) (.n (some Oq) .e .e) (.n (some LJ) .e .e)) (.n (some OD) (.n (some Xt) .e .e) .e))))) (.n none (.n none (.n none (.n none (.n (some OW) (.n (some ES) .e .e) (.n (some EP) .e .e)) .e) (.n none (.n (some ND) (.n (some Jt) .e .e) (.n (some Qz) .e .e)) (.n (some Q8) (.n (some Gj) .e .e) .e))) (.n none (.n none (.n none .e (.n (some I4) .e .e)) (.n none (.n (some IJ) .e .e) .e)) (.n none (.n (some NG) .e (.n (some Dp) .e .e)) (.n (some P9) (.n (some VA) .e .e) .e)))) (.n none (.n none (.n (some MW) (.n (some TG) (.n (some Xx) .e .e) (.n (some Lm) .e .e)) (.n (some lq) (.n (some Ob) .e .e) .e)) (.n (some TL) (.n (some OV) .e (.n (some HY) .e .e)) (.n (some Oo) (.n (some DJ) .e .e) .e))) (.n (some Xq) (.n none (.n (some MX) (.n (some Jv) .e .e) .e) (.n (some II) (.n (some Gx) .e .e) .e)) (.n (some I5) (.n (some Ef) .e (.n (some JR) .e .e)) (.n (some Vz) (.n (some Ll) .e .e) .e))))))
theorem NR:T.get F 9=some JJ:=by kernel_rfl
theorem fU:T.get F 14=some Xq:=by kernel_rfl
theorem Tn:T.get F 17=some OH:=by kernel_rfl
theorem Rx:T.get F 18=some MW:=by kernel_rfl
theorem Rq:T.get F 19=some MP:=by kernel_rfl
theorem Tq:T.get F 21=some Oa:=by kernel_rfl
theorem sS:T.get F 25=some QA:=by kernel_rfl
theorem XB:T.get F 26=some TL:=by kernel_rfl
theorem qV:T.get F 29=some gG:=by kernel_rfl
theorem MG:T.get F 30=some I5:=by kernel_rfl
theorem ABU:T.get F 31=some Ug:=by kernel_rfl
theorem qZ:T.get F 32=some OW:=by kernel_rfl
theorem Vf:T.get F 33=some Qy:=by kernel_rfl
theorem XE:T.get F 34=some TG:=by kernel_rfl
theorem XL:T.get F 35=some TJ:=by kernel_rfl
theorem RZ:T.get F 38=some MX:=by kernel_rfl
theorem jC:T.get F 39=some Zd:=by kernel_rfl
theorem Ru:T.get F 40=some ND:=by kernel_rfl
theorem Ti:T.get F 41=some OY:=by kernel_rfl
theorem TW:T.get F 42=some OV:=by kernel_rfl
theorem Rk:T.get F 43=some Me:=by kernel_rfl
theorem Rt:T.get F 44=some NG:=by kernel_rfl
theorem Vs:T.get F 45=some Qu:=by kernel_rfl
theorem G7:T.get F 46=some Ef:=by kernel_rfl
theorem Ro:T.get F 47=some MQ:=by kernel_rfl
theorem PW:T.get F 49=some KR:=by kernel_rfl
theorem vY:T.get F 50=some lq:=by kernel_rfl
theorem QU:T.get F 53=some LP:=by kernel_rfl
theorem KW:T.get F 54=some II:=by kernel_rfl
theorem Ko:T.get F 55=some IK:=by kernel_rfl
theorem Vq:T.get F 56=some Q8:=by kernel_rfl
theorem UC:T.get F 58=some Oo:=by kernel_rfl
theorem Rz:T.get F 59=some MZ:=by kernel_rfl
theorem Uu:T.get F 60=some P9:=by kernel_rfl
theorem TY:T.get F 61=some OD:=by kernel_rfl
theorem aQ:T.get F 62=some Vz:=by kernel_rfl
theorem Tc:T.get F 63=some OX:=by kernel_rfl
theorem Gl:T.get F 64=some ES:=by kernel_rfl
theorem JG:T.get F 65=some Fh:=by kernel_rfl
theorem fV:T.get F 66=some Xx:=by kernel_rfl
theorem U8:T.get F 67=some P7:=by kernel_rfl
theorem OO:T.get F 70=some Jv:=by kernel_rfl
theorem Ph:T.get F 71=some KN:=by kernel_rfl
theorem Ot:T.get F 72=some Jt:=by kernel_rfl
theorem NJ:T.get F 73=some JM:=by kernel_rfl
theorem Tj:T.get F 77=some Oq:=by kernel_rfl
theorem jf:T.get F 79=some Zt:=by kernel_rfl
theorem Y2:T.get F 81=some VF:=by kernel_rfl
theorem TP:T.get F 82=some Ob:=by kernel_rfl
theorem Vg:T.get F 83=some Qw:=by kernel_rfl
theorem KY:T.get F 84=some IJ:=by kernel_rfl
theorem MK:T.get F 85=some Iw:=by kernel_rfl
theorem Yt:T.get F 86=some Gx:=by kernel_rfl
theorem Ju:T.get F 87=some Gi:=by kernel_rfl
theorem Jl:T.get F 88=some Gj:=by kernel_rfl
theorem J5:T.get F 89=some Gw:=by kernel_rfl
theorem EZ:T.get F 90=some DJ:=by kernel_rfl
theorem Qk:T.get F 91=some Ld:=by kernel_rfl
theorem YD:T.get F 92=some VA:=by kernel_rfl
theorem fB:T.get F 93=some Xt:=by kernel_rfl
theorem Qa:T.get F 94=some Ll:=by kernel_rfl
theorem YU:T.get F 95=some U9:=by kernel_rfl
theorem Gn:T.get F 96=some EP:=by kernel_rfl
theorem Ol:T.get F 97=some Jp:=by kernel_rfl
theorem Qb:T.get F 98=some Lm:=by kernel_rfl
theorem PO:T.get F 99=some KQ:=by kernel_rfl
theorem MI:T.get F 100=some I4:=by kernel_rfl
theorem Ri:T.get F 103=some MO:=by kernel_rfl
theorem Vm:T.get F 104=some Qz:=by kernel_rfl
theorem KD:T.get F 105=some Hq:=by kernel_rfl
theorem KG:T.get F 106=some HY:=by kernel_rfl
theorem MC:T.get F 107=some Iz:=by kernel_rfl
theorem FD:T.get F 108=some Dp:=by kernel_rfl
theorem QL:T.get F 109=some LJ:=by kernel_rfl
theorem Na:T.get F 110=some JR:=by kernel_rfl
theorem KI:T.get F 111=some Gu:=by kernel_rfl
abbrev Fg(n:Nat)(a:AF):Prop:=ABA Go.Proofs.Tryd.prog F n a
theorem ok1{n:Nat}{a:AF}{fn:Func}{loc:Nat->Bool}{df:Bool}{ords:AHL}{dg:Nat}(hf:Go.Proofs.Tryd.prog.funcs[n]? =some fn)(ht:trF Go.Proofs.Tryd.prog loc df ords dg fn=some a)(hn:(fn.name== "runtime.NumGoroutine")=false:=by kernel_rfl)(hd:a.dg=dg:=by kernel_rfl)(hi:AJA a.dp=true:=by kernel_rfl):Fg n a:=.one hf hn ht hd hi
theorem ZK:Fg 9 JJ:=ok1 Proofs.Tryd.func9 dA
theorem AAq:Fg 14 Xq:=ok1 Proofs.Tryd.func14 ADX
theorem jE:Fg 17 OH:=ok1 Proofs.Tryd.func17 qI
theorem ig:Fg 18 MW:=ok1 Proofs.Tryd.func18 mP
theorem iP:Fg 19 MP:=ok1 Proofs.Tryd.func19 mJ
theorem kT:Fg 21 Oa:=ok1 Proofs.Tryd.func21 qR
theorem nO:Fg 25 QA:=ok1 Proofs.Tryd.func25 tN
theorem rG:Fg 26 TL:=ok1 Proofs.Tryd.func26 yZ
theorem AEG:Fg 29 gG:=ok1 Proofs.Tryd.func29 AHI
theorem ZB:Fg 30 I5:=ok1 Proofs.Tryd.func30 aF
theorem vX:Fg 31 Ug:=ok1 Proofs.Tryd.func31 zZ
theorem kQ:Fg 32 OW:=ok1 Proofs.Tryd.func32 pK
theorem qh:Fg 33 Qy:=ok1 Proofs.Tryd.func33 vV
theorem tV:Fg 34 TG:=ok1 Proofs.Tryd.func34 yP
theorem uK:Fg 35 TJ:=ok1 Proofs.Tryd.func35 yS
theorem iR:Fg 38 MX:=ok1 Proofs.Tryd.func38 mO
theorem ABi:Fg 39 Zd:=ok1 Proofs.Tryd.func39 AFX
theorem iZ:Fg 40 ND:=ok1 Proofs.Tryd.func40 nM
theorem jg:Fg 41 OY:=ok1 Proofs.Tryd.func41 qF
theorem kU:Fg 42 OV:=ok1 Proofs.Tryd.func42 oQ
theorem iU:Fg 43 Me:=ok1 Proofs.Tryd.func43 mg
theorem iw:Fg 44 NG:=ok1 Proofs.Tryd.func44 mW
theorem qp:Fg 45 Qu:=ok1 Proofs.Tryd.func45 uY
theorem TN:Fg 46 Ef:=ok1 Proofs.Tryd.func46 U2
theorem iL:Fg 47 MQ:=ok1 Proofs.Tryd.func47 nC
theorem dH:Fg 49 KR:=ok1 Proofs.Tryd.func49 iI
theorem AE7:Fg 50 lq:=ok1 Proofs.Tryd.func50 AJN
theorem dV:Fg 53 LP:=ok1 Proofs.Tryd.func53 jo
theorem Xu:Fg 54 II:=ok1 Proofs.Tryd.func54 ZJ
theorem Xr:Fg 55 IK:=ok1 Proofs.Tryd.func55 ZL
theorem qU:Fg 56 Q8:=ok1 Proofs.Tryd.func56 vN
theorem jY:Fg 58 Oo:=ok1 Proofs.Tryd.func58 oz
theorem iM:Fg 59 MZ:=ok1 Proofs.Tryd.func59 nD
theorem mG:Fg 60 P9:=ok1 Proofs.Tryd.func60 sW
theorem kE:Fg 61 OD:=ok1 Proofs.Tryd.func61 qN
theorem yU:Fg 62 Vz:=ok1 Proofs.Tryd.func62 ABx
theorem jD:Fg 63 OX:=ok1 Proofs.Tryd.func63 qC
theorem SH:Fg 64 ES:=ok1 Proofs.Tryd.func64 Ub
theorem VJ:Fg 65 Fh:=ok1 Proofs.Tryd.func65 V6
theorem AAV:Fg 66 Xx:=ok1 Proofs.Tryd.func66 ADM
theorem nP:Fg 67 P7:=ok1 Proofs.Tryd.func67 sD
theorem aS:Fg 70 Jv:=ok1 Proofs.Tryd.func70 fG
theorem bQ:Fg 71 KN:=ok1 Proofs.Tryd.func71 iK
theorem aI:Fg 72 Jt:=ok1 Proofs.Tryd.func72 fJ
theorem ZE:Fg 73 JM:=ok1 Proofs.Tryd.func73 cZ
theorem lH:Fg 77 Oq:=ok1 Proofs.Tryd.func77 qO
theorem ABm:Fg 79 Zt:=ok1 Proofs.Tryd.func79 AF0
theorem uw:Fg 81 VF:=ok1 Proofs.Tryd.func81 AAv
theorem jk:Fg 82 Ob:=ok1 Proofs.Tryd.func82 qH
theorem oh:Fg 83 Qw:=ok1 Proofs.Tryd.func83 vZ
theorem Xo:Fg 84 IJ:=ok1 Proofs.Tryd.func84 ZN
theorem Y7:Fg 85 Iw:=ok1 Proofs.Tryd.func85 aH
theorem Wu:Fg 86 Gx:=ok1 Proofs.Tryd.func86 Y6
theorem WZ:Fg 87 Gi:=ok1 Proofs.Tryd.func87 Xm
theorem Wj:Fg 88 Gj:=ok1 Proofs.Tryd.func88 X0
theorem Wp:Fg 89 Gw:=ok1 Proofs.Tryd.func89 YV
theorem Og:Fg 90 DJ:=ok1 Proofs.Tryd.func90 Px
theorem dU:Fg 91 Ld:=ok1 Proofs.Tryd.func91 kD
theorem vw:Fg 92 VA:=ok1 Proofs.Tryd.func92 ABF
theorem zu:Fg 93 Xt:=ok1 Proofs.Tryd.func93 AEB
theorem fD:Fg 94 Ll:=ok1 Proofs.Tryd.func94 jd
theorem vG:Fg 95 U9:=ok1 Proofs.Tryd.func95 AA4
theorem Sm:Fg 96 EP:=ok1 Proofs.Tryd.func96 UZ
theorem aB:Fg 97 Jp:=ok1 Proofs.Tryd.func97 gI
theorem eF:Fg 98 Lm:=ok1 Proofs.Tryd.func98 jq
theorem dD:Fg 99 KQ:=ok1 Proofs.Tryd.func99 iq
theorem YR:Fg 100 I4:=ok1 Proofs.Tryd.func100 aW
theorem iJ:Fg 103 MO:=ok1 Proofs.Tryd.func103 mY
theorem qo:Fg 104 Qz:=ok1 Proofs.Tryd.func104 wF
theorem XG:Fg 105 Hq:=ok1 Proofs.Tryd.func105 Y9
theorem Wx:Fg 106 HY:=ok1 Proofs.Tryd.func106 YH
theorem YF:Fg 107 Iz:=ok1 Proofs.Tryd.func107 aV
theorem QH:Fg 108 Dp:=ok1 Proofs.Tryd.func108 Q9
theorem eH:Fg 109 LJ:=ok1 Proofs.Tryd.func109 kJ
theorem ZH:Fg 110 JR:=ok1 Proofs.Tryd.func110 bZ
theorem XH:Fg 111 Gu:=ok1 Proofs.Tryd.func111 Y3
theorem all_good:T.All (λp af=>ABA Go.Proofs.Tryd.prog F p.key af) F:=(.n0 (.n0 (.n0 (.n0 (.n0 (.n1 vX (.n1 jD .e .e) (.n1 vG .e .e)) (.n1 iL (.n1 ABm .e .e) (.n1 XH .e .e))) (.n0 (.n1 ABi (.n1 bQ .e .e) (.n1 iJ .e .e)) (.n1 Xr (.n1 WZ .e .e) .e))) (.n0 (.n1 iP (.n1 uK (.n1 nP .e .e) (.n1 dD .e .e)) (.n0 (.n1 oh .e .e) .e)) (.n0 (.n1 iU .e (.n1 YF .e .e)) (.n1 iM (.n1 dU .e .e) .e)))) (.n0 (.n1 ZK (.n1 jE (.n1 qh (.n1 VJ .e .e) (.n1 aB .e .e)) (.n1 dH (.n1 uw .e .e) .e)) (.n1 nO (.n1 jg (.n1 ZE .e .e) (.n1 XG .e .e)) (.n0 (.n1 Wp .e .e) .e))) (.n0 (.n1 kT .e (.n1 dV (.n1 Y7 .e .e) .e)) (.n1 AEG (.n1 qp (.n1 lH .e .e) (.n1 eH .e .e)) (.n1 kE (.n1 zu .e .e) .e))))) (.n0 (.n0 (.n0 (.n0 (.n1 kQ (.n1 SH .e .e) (.n1 Sm .e .e)) .e) (.n0 (.n1 iZ (.n1 aI .e .e) (.n1 qo .e .e)) (.n1 qU (.n1 Wj .e .e) .e))) (.n0 (.n0 (.n0 .e (.n1 YR .e .e)) (.n0 (.n1 Xo .e .e) .e)) (.n0 (.n1 iw .e (.n1 QH .e .e)) (.n1 mG (.n1 vw .e .e) .e)))) (.n0 (.n0 (.n1 ig (.n1 tV (.n1 AAV .e .e) (.n1 eF .e .e)) (.n1 AE7 (.n1 jk .e .e) .e)) (.n1 rG (.n1 kU .e (.n1 Wx .e .e)) (.n1 jY (.n1 Og .e .e) .e))) (.n1 AAq (.n0 (.n1 iR (.n1 aS .e .e) .e) (.n1 Xu (.n1 Wu .e .e) .e)) (.n1 ZB (.n1 TN .e (.n1 ZH .e .e)) (.n1 yU (.n1 fD .e .e) .e))))))
theorem APc:ABN Go.Proofs.Tryd.prog F:=.APE (by kernel_rfl) all_good
end Go.RL
