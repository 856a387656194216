/- Part of a proof; nothing is assumed. -/
import Derived.Test.YtlhlldpfafhpbaaGreatDoorEngF
import Derived.Test.YtlhlldpfafhpbaaGreatDoorProg
set_option linter.unusedVariables false
set_option linter.unusedSimpArgs false
noncomputable section
namespace Go.RL
open Go.BN
set_option maxRecDepth 100000
abbrev tr(l:List (Nat×Nat))(d:Bool)(o:AFc)(g:Nat)(f:Func):Option AF:=fr Go.Proofs.Tryz.prog (inR l) d o g f
abbrev IS:=tr [(12,12),(14,14),(18,18),(20,20),(22,23),(25,31),(33,44),(46,51),(53,69),(81,98)] false [(17,Dy 13)] 0 Proofs.Tryz.f3
def EU:=Ad IS
abbrev L8:IS=some EU:=AL o5
abbrev Ln:=tr [(4,37)] false [] 0 Proofs.Tryz.f7
def HJ:=Ad Ln
abbrev QY:Ln=some HJ:=AL o5
abbrev eM:=tr [(7,16)] false [] 0 Proofs.Tryz.f8
def MA:=Ad eM
abbrev rI:eM=some MA:=AL o5
abbrev YA:=tr [(11,11),(16,24),(26,31)] false [] 0 Proofs.Tryz.f9
def J1:=Ad YA
abbrev o7:YA=some J1:=AL o5
abbrev Qm:=tr [(13,14),(16,18),(23,24),(37,39),(41,41),(62,72),(77,78),(87,87),(89,93),(95,96)] false [(8,Dy 14),(13,Dy 9),(14,Dy 13),(21,Dy 9)] 0 Proofs.Tryz.f10
def JH:=Ad Qm
abbrev Uh:Qm=some JH:=AL o5
abbrev ABX:=tr [(14,14),(19,20),(28,30)] false [(1,av [0,1,2,3,4,5,8,6,7,9]),(5,Dy 8)] 0 Proofs.Tryz.f14
def bY:=Ad ABX
abbrev AH9:ABX=some bY:=AL o5
abbrev y9:=tr [(6,9),(14,15),(23,24)] false [(5,Dy 8)] 0 Proofs.Tryz.f15
def X1:=Ad y9
abbrev AFG:y9=some X1:=AL o5
abbrev vQ:=tr [(10,20),(25,26),(41,46),(48,52)] false [(7,Dy 15)] 0 Proofs.Tryz.f16
def VL:=Ad vQ
abbrev AB4:vQ=some VL:=AL o5
abbrev J9:=tr [(3,5)] false [] 0 Proofs.Tryz.f18
def Gi:=Ad J9
abbrev NF:J9=some Gi:=AL o5
abbrev ABT:=tr [(1,1)] false [] 0 Proofs.Tryz.f19
def YV:=Ad ABT
abbrev AGc:ABT=some YV:=AL o5
abbrev KQ:=tr [(7,7),(11,20),(25,42)] false [] 0 Proofs.Tryz.f20
def G2:=Ad KQ
abbrev O9:KQ=some G2:=AL o5
abbrev LC:=tr [(8,9),(11,11),(15,39),(44,49),(51,54)] false [] 0 Proofs.Tryz.f21
def Gz:=Ad LC
abbrev OX:LC=some Gz:=AL o5
abbrev XP:=tr [(10,12),(17,26),(28,33)] false [] 0 Proofs.Tryz.f22
def KI:=Ad XP
abbrev nU:XP=some KI:=AL o5
abbrev Uu:=tr [(6,16),(46,51),(63,64),(88,90)] false [(3,Dy 11),(4,Dy 9),(5,Dy 12),(8,Dy 11),(10,Dy 12),(11,Dy 12)] 0 Proofs.Tryz.f23
def IU:=Ad Uu
abbrev jJ:Uu=some IU:=AL o5
abbrev Xm:=tr [(6,6),(11,20)] false [] 0 Proofs.Tryz.f24
def J2:=Ad Xm
abbrev Ow:Xm=some J2:=AL o5
abbrev Wh:=tr [(9,27),(29,29),(34,47),(49,80),(82,82),(87,88),(95,96)] false [(15,Dy 6)] 0 Proofs.Tryz.f25
def I8:=Ad Wh
abbrev kW:Wh=some I8:=AL o5
abbrev WF:=tr [(10,10),(13,14),(18,18),(21,31),(33,49),(51,59),(61,62),(64,66),(71,77),(79,88),(90,91),(96,105),(107,127),(129,129)] false [] 0 Proofs.Tryz.f26
def JC:=Ad WF
abbrev lr:WF=some JC:=AL o5
abbrev K5:=tr [(14,14),(16,16),(21,22),(32,32),(41,41),(46,47),(62,69),(71,72),(77,85),(87,87)] false [(4,Dy 9),(7,Dy 8),(12,av [0,1,2,3,4,5,6,7,8,14,9,10,11,12,13,15,16,17])] 0 Proofs.Tryz.f27
def Ed:=Ad K5
abbrev N0:K5=some Ed:=AL o5
abbrev JV:=tr [(3,3),(5,7)] false [] 0 Proofs.Tryz.f30
def DI:=Ad JV
abbrev Re:JV=some DI:=AL o5
abbrev yN:=tr [(6,13),(18,28)] false [] 0 Proofs.Tryz.f31
def X6:=Ad yN
abbrev AF8:yN=some X6:=AL o5
abbrev aV:=tr [(2,11)] false [] 0 Proofs.Tryz.f32
def L7:=Ad aV
abbrev rO:aV=some L7:=AL o5
abbrev GV:=tr [(3,3),(5,7)] false [] 0 Proofs.Tryz.f33
def Cd:=Ad GV
abbrev Nm:GV=some Cd:=AL o5
abbrev D5:=tr [(4,8)] false [] 0 Proofs.Tryz.f34
def Br:=Ad D5
abbrev Ie:D5=some Br:=AL o5
abbrev mJ:=tr [(5,9)] false [] 0 Proofs.Tryz.f35
def Qy:=Ad mJ
abbrev yw:mJ=some Qy:=AL o5
abbrev Xv:=tr [(5,7)] false [] 0 Proofs.Tryz.f36
def J3:=Ad Xv
abbrev om:Xv=some J3:=AL o5
abbrev Vl:=tr [(8,14),(16,20),(25,40)] false [] 0 Proofs.Tryz.f37
def I0:=Ad Vl
abbrev lN:Vl=some I0:=AL o5
abbrev fQ:=tr [(3,4),(6,9)] false [] 0 Proofs.Tryz.f41
def Ov:=Ad fQ
abbrev wK:fQ=some Ov:=AL o5
abbrev Vt:=tr [(9,9),(11,22),(24,24),(31,31)] false [(6,[(0,.plain),(1,.plain),(2,.plain),(4,.plain),(5,.plain),(3,.plain),(6,.wr),(7,.wr)])] 0 Proofs.Tryz.f43
def I9:=Ad Vt
abbrev lw:Vt=some I9:=AL o5
abbrev YD:=tr [(8,8),(10,26)] false [] 0 Proofs.Tryz.f44
def Kj:=Ad YD
abbrev oy:YD=some Kj:=AL o5
abbrev Vo:=tr [(10,10),(14,14),(17,22),(27,40),(44,45)] false [(8,Dy 5)] 0 Proofs.Tryz.f45
def JB:=Ad Vo
abbrev kD:Vo=some JB:=AL o5
abbrev XU:=tr [(6,6),(11,20)] false [] 0 Proofs.Tryz.f46
def J8:=Ad XU
abbrev mo:XU=some J8:=AL o5
abbrev mI:=tr [(12,18),(32,36),(43,51),(56,58),(66,71),(78,79)] false [(2,Dy 9),(3,Dy 6),(6,Dy 7),(12,Dy 8),(15,Dy 7)] 0 Proofs.Tryz.f47
def QZ:=Ad mI
abbrev yJ:mI=some QZ:=AL o5
abbrev AEY:=tr [(3,4)] false [] 0 Proofs.Tryz.f48
def je:=Ad AEY
abbrev AKg:AEY=some je:=AL o5
abbrev ai:=tr [(1,1)] false [] 0 Proofs.Tryz.f49
def MP:=Ad ai
abbrev rW:ai=some MP:=AL o5
abbrev Ok:=tr [(17,24),(26,31),(36,52),(63,63),(78,81)] false [(11,Dy 11),(13,av [0,1,4,6,7,2,3,5,8,9,10,11,12,13,14])] 0 Proofs.Tryz.f50
def E7:=Ad Ok
abbrev Wo:Ok=some E7:=AL o5
abbrev zS:=tr [(1,1)] false [] 0 Proofs.Tryz.f51
def Xh:=Ad zS
abbrev AEy:zS=some Xh:=AL o5
abbrev Qd:=tr [(6,10),(39,52)] false [(3,Dy 28)] 0 Proofs.Tryz.f52
def GJ:=Ad Qd
abbrev ZY:Qd=some GJ:=AL o5
abbrev XR:=tr [(8,47),(49,49),(54,70),(72,75),(80,107),(109,111)] false [] 0 Proofs.Tryz.f53
def KP:=Ad XR
abbrev oz:XR=some KP:=AL o5
abbrev Wd:=tr [(13,27),(32,34),(36,37),(42,45),(47,48),(53,56),(58,59),(64,88),(90,91),(96,106),(108,108)] false [] 0 Proofs.Tryz.f54
def JF:=Ad Wd
abbrev mC:Wd=some JF:=AL o5
abbrev Zs:=tr [(6,8),(10,13),(15,17)] false [(6,Dy 12)] 0 Proofs.Tryz.f55
def MF:=Ad Zs
abbrev sE:Zs=some MF:=AL o5
abbrev Xu:=tr [(5,5)] false [] 0 Proofs.Tryz.f56
def Kd:=Ad Xu
abbrev oi:Xu=some Kd:=AL o5
abbrev Io:=tr [(5,8)] false [] 0 Proofs.Tryz.f57
def C7:=Ad Io
abbrev Qf:Io=some C7:=AL o5
abbrev qF:=tr [(5,6),(10,10),(29,31),(35,35),(54,54)] false [(4,Dy 18),(10,Dy 18)] 0 Proofs.Tryz.f58
def S2:=Ad qF
abbrev AAI:qF=some S2:=AL o5
abbrev WV:=tr [(7,7),(13,16),(18,20),(22,29),(31,31)] false [] 0 Proofs.Tryz.f59
def JG:=Ad WV
abbrev kM:WV=some JG:=AL o5
abbrev Ub:=tr [(12,12),(16,16),(19,24),(29,48),(52,53)] false [(8,Dy 5)] 0 Proofs.Tryz.f60
def IN:=Ad Ub
abbrev jR:Ub=some IN:=AL o5
abbrev dJ:=tr [(5,30)] false [] 0 Proofs.Tryz.f61
def Na:=Ad dJ
abbrev uj:dJ=some Na:=AL o5
abbrev KN:=tr [(11,11),(28,52),(54,55)] false [(1,Dy 12)] 0 Proofs.Tryz.f62
def Eg:=Ad KN
abbrev N9:KN=some Eg:=AL o5
abbrev FS:=tr [(4,8)] false [] 0 Proofs.Tryz.f65
def CQ:=Ad FS
abbrev LW:FS=some CQ:=AL o5
abbrev WU:=tr [(5,9)] false [] 0 Proofs.Tryz.f66
def I5:=Ad WU
abbrev lL:WU=some I5:=AL o5
abbrev Em:=tr [(4,8)] false [] 0 Proofs.Tryz.f67
def CG:=Ad Em
abbrev KY:Em=some CG:=AL o5
abbrev WQ:=tr [(5,9)] false [] 0 Proofs.Tryz.f68
def I4:=Ad WQ
abbrev lW:WQ=some I4:=AL o5
abbrev Hi:=tr [(10,12),(14,29),(31,34),(36,53),(55,62)] false [] 0 Proofs.Tryz.f69
def Cr:=Ad Hi
abbrev Oz:Hi=some Cr:=AL o5
abbrev IM:=tr [(5,7)] false [] 0 Proofs.Tryz.f70
def Cy:=Ad IM
abbrev P9:IM=some Cy:=AL o5
abbrev hZ:=tr [(29,43)] false [(1,av [0,1,2,3,4,5,6,7,9,10,11,12,13,14,15,16,17,18,8,19,20,21,22,23,24,25])] 0 Proofs.Tryz.f71
def On:=Ad hZ
abbrev wj:hZ=some On:=AL o5
abbrev ZZ:=tr [(7,11),(16,21)] false [(6,Dy 20)] 0 Proofs.Tryz.f72
def MD:=Ad ZZ
abbrev PQ:ZZ=some MD:=AL o5
abbrev fx:=tr [(2,3),(11,21),(29,32)] false [(1,Dy 7),(3,Dy 7)] 0 Proofs.Tryz.f73
def Oq:=Ad fx
abbrev wO:fx=some Oq:=AL o5
abbrev dR:=tr [(3,8)] false [] 0 Proofs.Tryz.f79
def Nh:=Ad dR
abbrev sx:dR=some Nh:=AL o5
abbrev Xa:=tr [(8,8),(13,17),(19,22)] false [] 0 Proofs.Tryz.f80
def KM:=Ad Xa
abbrev nq:Xa=some KM:=AL o5
abbrev Zr:=tr [(5,30)] false [] 0 Proofs.Tryz.f81
def MC:=Ad Zr
abbrev rZ:Zr=some MC:=AL o5
abbrev QS:=tr [(7,15),(20,33)] false [] 0 Proofs.Tryz.f82
def F6:=Ad QS
abbrev Zl:QS=some F6:=AL o5
abbrev Pp:=tr [(12,19),(21,39)] false [] 0 Proofs.Tryz.f83
def Fa:=Ad Pp
abbrev Yk:Pp=some Fa:=AL o5
abbrev RC:=tr [(10,24),(26,26),(31,33),(38,40),(45,50),(52,68),(70,82)] false [(4,Dy 4),(6,Dy 4),(8,Dy 4)] 0 Proofs.Tryz.f84
def F8:=Ad RC
abbrev ZD:RC=some F8:=AL o5
abbrev aN:=tr [(3,22)] false [] 0 Proofs.Tryz.f85
def MK:=Ad aN
abbrev sK:aN=some MK:=AL o5
abbrev vC:=tr [(3,22)] false [] 0 Proofs.Tryz.f86
def VI:=Ad vC
abbrev ADJ:vC=some VI:=AL o5
abbrev FV:=tr [(5,8)] false [] 0 Proofs.Tryz.f87
def CP:=Ad FV
abbrev LI:FV=some CP:=AL o5
abbrev UR:=tr [(3,5)] false [] 0 Proofs.Tryz.f88
def IJ:=Ad UR
abbrev jS:UR=some IJ:=AL o5
abbrev mK:=tr [(3,10)] false [] 0 Proofs.Tryz.f89
def QT:=Ad mK
abbrev zi:mK=some QT:=AL o5
abbrev AXv:=tr [(3,6)] false [] 0 Proofs.Tryz.f90
def VJ:=Ad AXv
abbrev AC6:AXv=some VJ:=AL o5
abbrev Ua:=tr [(7,11),(13,17),(19,23),(25,29),(31,35),(37,39),(41,44)] false [] 0 Proofs.Tryz.f91
def IQ:=Ad Ua
abbrev gD:Ua=some IQ:=AL o5
abbrev K4:=tr [(6,6),(10,15),(17,18)] false [] 0 Proofs.Tryz.f92
def Dl:=Ad K4
abbrev TM:K4=some Dl:=AL o5
abbrev Vf:=tr [(8,8),(13,17),(19,21)] false [] 0 Proofs.Tryz.f93
def I1:=Ad Vf
abbrev li:Vf=some I1:=AL o5
abbrev Hr:=tr [(6,9),(11,11),(15,15),(25,25)] false [(6,Dy 9)] 0 Proofs.Tryz.f94
def Cz:=Ad Hr
abbrev QK:Hr=some Cz:=AL o5
abbrev Je:=tr [(10,12),(14,29),(31,34),(36,53),(55,62)] false [] 0 Proofs.Tryz.f100
def DJ:=Ad Je
abbrev Rd:Je=some DJ:=AL o5
abbrev It:=tr [(10,12),(14,29),(31,34),(36,53),(55,62)] false [] 0 Proofs.Tryz.f101
def C8:=Ad It
abbrev Q2:It=some C8:=AL o5
abbrev FG:=tr [(10,13),(15,17),(35,36)] false [(4,Dy 17),(6,Dy 18)] 0 Proofs.Tryz.f102
def CM:=Ad FG
abbrev K6:FG=some CM:=AL o5
abbrev G9:=tr [(25,27),(29,32),(34,39),(51,57),(59,60),(77,79),(81,84),(86,91),(104,109),(111,112),(129,139),(141,150),(152,157),(172,184),(186,198),(200,212),(214,219)] false [(5,Dy 11),(11,Dy 18),(17,Dy 12),(23,Dy 18),(35,Dy 14)] 0 Proofs.Tryz.f103
def Di:=Ad G9
abbrev OH:G9=some Di:=AL o5
abbrev dT:=tr [(8,15),(27,33),(36,45),(47,49),(51,53),(55,57),(59,71),(73,91)] false [(3,Dy 10)] 0 Proofs.Tryz.f105
def Nb:=Ad dT
abbrev ug:dT=some Nb:=AL o5
abbrev iB:=tr [(9,30),(45,51)] false [(3,Dy 15)] 0 Proofs.Tryz.f106
def Ox:=Ad iB
abbrev wQ:iB=some Ox:=AL o5
abbrev WN:=tr [(8,13),(15,18),(27,27)] false [(4,Dy 9)] 0 Proofs.Tryz.f107
def JE:=Ad WN
abbrev kO:WN=some JE:=AL o5
abbrev XT:=tr [(5,7)] false [] 0 Proofs.Tryz.f108
def J7:=Ad XT
abbrev o0:XT=some J7:=AL o5
abbrev Jo:=tr [(6,9),(11,11),(15,15),(25,25)] false [(6,Dy 9)] 0 Proofs.Tryz.f109
def DH:=Ad Jo
abbrev Rn:Jo=some DH:=AL o5
abbrev Cv:=tr [(10,13),(19,29),(31,31)] false [] 0 Proofs.Tryz.f110
def BO:=Ad Cv
abbrev F5:Cv=some BO:=AL o5
abbrev UQ:=tr [] false [(1,av [0,1,2,3,4,9,5,6,7,8,10,11]),(2,Dy 18),(3,av [0,1,2,3,4,5,6,7,8,10,11,12,13,14,15,9,16,17,18,19,20,21,22,23])] 0 Proofs.Tryz.f111
def IX:=Ad UQ
abbrev jI:UQ=some IX:=AL o5
abbrev R6:=tr [(9,14),(19,39)] false [] 0 Proofs.Tryz.f112
def G8:=Ad R6
abbrev bt:R6=some G8:=AL o5
abbrev Qt:=tr [(13,13),(16,32),(52,53),(67,67),(69,74),(100,102),(104,123),(125,127),(129,152),(154,155),(157,162),(179,179),(181,182),(184,189),(198,198),(200,202),(204,225)] false [(8,Dy 20),(10,Dy 14),(14,av [0,1,2,3,4,5,6,7,8,9,13,10,11,12,14]),(15,av [0,1,2,4,5,6,3,7,8,9,10]),(27,av [0,1,3,4,5,2,6,7,8]),(28,av [0,1,3,4,5,2,6,7,8]),(33,av [0,1,3,4,5,2,6,7,8])] 0 Proofs.Tryz.f113
def GG:=Ad Qt
abbrev aX:Qt=some GG:=AL o5
abbrev PU:=tr [(9,12),(17,18),(34,41),(43,51)] false [(5,Dy 15)] 0 Proofs.Tryz.f114
def Ff:=Ad PU
abbrev Yl:PU=some Ff:=AL o5
abbrev SN:=tr [(7,7),(9,13),(16,22),(24,32),(34,34),(44,51),(53,53),(64,64),(73,77)] false [(10,av [0,2,4,5,9,1,3,6,7,8,10]),(14,av [0,2,3,5,1,4,6,7,8,9]),(16,av [0,2,3,1,4,5,6,7]),(19,av [0,1,5,7,2,3,4,6,8,9,10,11])] 0 Proofs.Tryz.f115
def G0:=Ad SN
abbrev cY:SN=some G0:=AL o5
abbrev RP:=tr [(7,7),(9,16),(19,24),(26,34),(36,44),(46,46),(61,74),(76,82)] false [(12,av [0,1,5,8,2,3,4,6,7,9,10,11,12,13]),(19,av [0,1,5,8,2,3,4,6,7,9,10,11,12,13])] 0 Proofs.Tryz.f116
def GF:=Ad RP
abbrev ZO:RP=some GF:=AL o5
abbrev dP:=tr [(7,10)] false [] 0 Proofs.Tryz.f117
def Nq:=Ad dP
abbrev ARN:dP=some Nq:=AL o5
abbrev QR:=tr [(8,14),(16,20)] false [] 0 Proofs.Tryz.f118
def F7:=Ad QR
abbrev ZK:QR=some F7:=AL o5
abbrev dQ:=tr [(3,4)] false [] 0 Proofs.Tryz.f119
def Nc:=Ad dQ
abbrev tO:dQ=some Nc:=AL o5
abbrev OK:=tr [(10,34),(36,42),(44,45),(47,53),(55,65),(68,74),(76,91)] false [] 0 Proofs.Tryz.f120
def E6:=Ad OK
abbrev Wn:OK=some E6:=AL o5
abbrev GY:=tr [(6,6),(10,15),(17,18)] false [] 0 Proofs.Tryz.f121
def Cc:=Ad GY
abbrev NT:GY=some Cc:=AL o5
abbrev GL:=tr [(10,13),(15,17),(35,36)] false [(4,Dy 17),(6,Dy 18)] 0 Proofs.Tryz.f133
def CY:=Ad GL
abbrev M7:GL=some CY:=AL o5
abbrev IF:=tr [(25,27),(29,32),(34,39),(51,57),(59,60),(77,79),(81,84),(86,91),(104,109),(111,112),(129,139),(141,150),(152,157),(172,184),(186,198),(200,212),(214,219)] false [(5,Dy 11),(11,Dy 18),(17,Dy 12),(23,Dy 18),(35,Dy 14)] 0 Proofs.Tryz.f134
def EM:=Ad IF
abbrev QB:IF=some EM:=AL o5
abbrev Fm:=tr [(10,13),(15,17),(35,36)] false [(4,Dy 17),(6,Dy 18)] 0 Proofs.Tryz.f135
def CU:=Ad Fm
abbrev MX:Fm=some CU:=AL o5
abbrev Hh:=tr [(25,27),(29,32),(34,39),(51,57),(59,60),(77,79),(81,84),(86,91),(104,109),(111,112),(129,139),(141,150),(152,157),(172,184),(186,198),(200,212),(214,219)] false [(5,Dy 11),(11,Dy 18),(17,Dy 12),(23,Dy 18),(35,Dy 14)] 0 Proofs.Tryz.f136
def D6:=Ad Hh
abbrev O2:Hh=some D6:=AL o5
abbrev Hj:=tr [(12,19),(21,22),(24,57)] false [] 0 Proofs.Tryz.f137
def D8:=Ad Hj
abbrev PB:Hj=some D8:=AL o5
abbrev aU:=tr [(8,9),(11,11),(16,25),(44,50),(52,57)] false [(9,Dy 16)] 0 Proofs.Tryz.f138
def MM:=Ad aU
abbrev rD:aU=some MM:=AL o5
abbrev dM:=tr [(8,14),(16,19),(24,30),(33,33),(48,50),(52,54),(56,58),(60,62),(64,70),(72,77),(79,88),(90,99),(101,107),(109,109),(124,124),(142,144),(146,148),(150,152),(154,160),(162,168),(170,173)] false [(10,Dy 13),(32,Dy 13),(34,Dy 16)] 0 Proofs.Tryz.f139
def Nf:=Ad dM
abbrev tz:dM=some Nf:=AL o5
abbrev dX:=tr [] false [(0,Dy 15)] 0 Proofs.Tryz.f140
def Np:=Ad dX
abbrev uD:dX=some Np:=AL o5
abbrev Jp:=tr [(6,6),(10,15),(17,18)] false [] 0 Proofs.Tryz.f141
def DK:=Ad Jp
abbrev Rc:Jp=some DK:=AL o5
abbrev T0:=tr [(5,8)] false [] 0 Proofs.Tryz.f142
def HW:=Ad T0
abbrev ei:T0=some HW:=AL o5
abbrev Vh:=tr [(8,10),(15,19),(21,24)] false [] 0 Proofs.Tryz.f143
def JI:=Ad Vh
abbrev ll:Vh=some JI:=AL o5
abbrev TR:=tr [(9,9),(11,20)] false [] 0 Proofs.Tryz.f144
def HX:=Ad TR
abbrev dx:TR=some HX:=AL o5
abbrev TS:=tr [(8,12),(14,14),(33,38),(43,45),(53,58),(60,65),(68,68),(82,90),(92,92),(113,114),(120,129),(131,131),(149,149),(155,155)] false [(3,av [0,1,2,3,4,5,6,7,8,9,10,11,13,14,12,15,16,17]),(9,Dy 8),(16,av [0,1,2,3,4,5,6,7,8,10,11,9,12]),(19,av [0,1,2,3,4,5,6,7,8,9,10,11,13,14,15,16,17,12,18]),(22,Dy 5),(26,av [0,1,2,3,4,5,6,7,8,9,10,11,13,14,12,15]),(28,Dy 5)] 0 Proofs.Tryz.f145
def He:=Ad TS
abbrev eJ:TS=some He:=AL o5
abbrev Oi:=tr [(5,7)] false [] 0 Proofs.Tryz.f146
def E8:=Ad Oi
abbrev Wu:Oi=some E8:=AL o5
abbrev SJ:=tr [(3,13)] false [] 0 Proofs.Tryz.f147
def Gv:=Ad SJ
abbrev cL:SJ=some Gv:=AL o5
abbrev Pd:=tr [] false [(1,av [0,2,3,1,4,5])] 0 Proofs.Tryz.f148
def Fe:=Ad Pd
abbrev YR:Pd=some Fe:=AL o5
abbrev Om:=tr [(5,9)] false [] 0 Proofs.Tryz.f149
def E5:=Ad Om
abbrev XM:Om=some E5:=AL o5
abbrev JK:=tr [(12,19),(21,22),(24,57)] false [] 0 Proofs.Tryz.f164
def Ez:=Ad JK
abbrev RV:JK=some Ez:=AL o5
abbrev Is:=tr [(12,19),(21,22),(24,57)] false [] 0 Proofs.Tryz.f165
def Ej:=Ad Is
abbrev Qe:Is=some Ej:=AL o5
abbrev Gh:=tr [(11,12),(14,15)] false [(3,Dy 24)] 0 Proofs.Tryz.f166
def DY:=Ad Gh
abbrev NW:Gh=some DY:=AL o5
abbrev dN:=tr [(7,9),(14,19),(21,28)] false [] 0 Proofs.Tryz.f167
def Nr:=Ad dN
abbrev tC:dN=some Nr:=AL o5
abbrev aM:=tr [] false [(1,Dy 18)] 0 Proofs.Tryz.f168
def MI:=Ad aM
abbrev pO:aM=some MI:=AL o5
abbrev Ry:=tr [(8,13),(15,18),(27,27)] false [(4,Dy 9)] 0 Proofs.Tryz.f169
def Gj:=Ad Ry
abbrev bL:Ry=some Gj:=AL o5
abbrev S8:=tr [(5,7)] false [] 0 Proofs.Tryz.f170
def Hd:=Ad S8
abbrev eI:S8=some Hd:=AL o5
abbrev XQ:=tr [(14,29)] false [(1,Dy 6)] 0 Proofs.Tryz.f171
def Ki:=Ad XQ
abbrev nr:XQ=some Ki:=AL o5
abbrev Xy:=tr [(29,32)] false [(1,av [0,1,2,3,4,5,6,7,8,9,10,11,12,13,19,14,15,16,17,18,20,21,22]),(3,av [0,1,2,3,4,5,6,7,8,10,11,12,9,13,14])] 0 Proofs.Tryz.f172
def J0:=Ad Xy
abbrev nz:Xy=some J0:=AL o5
abbrev Z7:=tr [] false [(1,Dy 12)] 0 Proofs.Tryz.f173
def MQ:=Ad Z7
abbrev qQ:Z7=some MQ:=AL o5
abbrev gK:=tr [(6,6),(9,15),(17,21),(23,33)] false [] 0 Proofs.Tryz.f174
def Ou:=Ad gK
abbrev wc:gK=some Ou:=AL o5
abbrev To:=tr [(6,10),(12,17)] false [] 0 Proofs.Tryz.f175
def Li:=Ad To
abbrev du:To=some Li:=AL o5
abbrev ID:=tr [(3,3),(5,7)] false [] 0 Proofs.Tryz.f176
def C0:=Ad ID
abbrev QI:ID=some C0:=AL o5
abbrev TH:=tr [(7,8),(10,11),(13,14),(16,18),(20,23),(25,27),(29,29),(40,46),(48,48),(58,64),(66,70),(72,72),(85,87),(89,89),(107,111),(113,113),(133,139),(141,141),(155,157)] false [(13,Dy 10),(16,av [0,1,2,3,4,9,5,6,7,8,10,11]),(24,av [0,1,2,3,4,5,6,7,9,10,8,11]),(27,Dy 5),(28,av [0,1,2,3,4,5,6,7,9,10,8,11]),(31,Dy 13),(32,Dy 6),(35,Dy 13)] 0 Proofs.Tryz.f177
def HS:=Ad TH
abbrev dw:TH=some HS:=AL o5
abbrev YH:=tr [(8,10),(15,30)] false [(3,Dy 4)] 0 Proofs.Tryz.f178
def KB:=Ad YH
abbrev nP:YH=some KB:=AL o5
abbrev SX:=tr [(13,14),(24,24)] false [(4,Dy 9)] 0 Proofs.Tryz.f179
def Gu:=Ad SX
abbrev cX:SX=some Gu:=AL o5
abbrev Hk:=tr [(11,12),(14,15)] false [(3,Dy 24)] 0 Proofs.Tryz.f188
def D7:=Ad Hk
abbrev O1:Hk=some D7:=AL o5
abbrev HF:=tr [(11,12),(14,15)] false [(3,Dy 24)] 0 Proofs.Tryz.f189
def Dv:=Ad HF
abbrev Od:HF=some Dv:=AL o5
abbrev OU:=tr [(8,13),(15,18),(27,27)] false [(4,Dy 9)] 0 Proofs.Tryz.f190
def E4:=Ad OU
abbrev XO:OU=some E4:=AL o5
abbrev Pb:=tr [(5,7)] false [] 0 Proofs.Tryz.f191
def FY:=Ad Pb
abbrev YQ:Pb=some FY:=AL o5
abbrev Ps:=tr [(5,8)] false [] 0 Proofs.Tryz.f192
def FW:=Ad Ps
abbrev Ya:Ps=some FW:=AL o5
abbrev Us:=tr [(2,3),(11,12)] false [(1,Dy 6)] 0 Proofs.Tryz.f193
def IA:=Ad Us
abbrev iw:Us=some IA:=AL o5
abbrev Uj:=tr [(2,3),(5,6)] false [(2,Dy 6)] 0 Proofs.Tryz.f194
def Hu:=Ad Uj
abbrev gU:Uj=some Hu:=AL o5
abbrev Ny:=tr [(8,13),(15,18),(27,27)] false [(4,Dy 9)] 0 Proofs.Tryz.f195
def EZ:=Ad Ny
abbrev VP:Ny=some EZ:=AL o5
abbrev UP:=tr [(5,16)] false [] 0 Proofs.Tryz.f196
def IH:=Ad UP
abbrev iy:UP=some IH:=AL o5
abbrev UY:=tr [(8,13),(15,18),(27,27)] false [(4,Dy 9)] 0 Proofs.Tryz.f197
def IR:=Ad UY
abbrev gl:UY=some IR:=AL o5
abbrev WH:=tr [(5,7)] false [] 0 Proofs.Tryz.f198
def I6:=Ad WH
abbrev kX:WH=some I6:=AL o5
abbrev Xx:=tr [] false [(1,Dy 12)] 0 Proofs.Tryz.f199
def Kk:=Ad Xx
abbrev pC:Xx=some Kk:=AL o5
abbrev TK:=tr [(7,17),(22,24),(34,40)] false [(5,Dy 10)] 0 Proofs.Tryz.f200
def HR:=Ad TK
abbrev dk:TK=some HR:=AL o5
abbrev mV:=tr [(1,1)] false [] 0 Proofs.Tryz.f201
def Qv:=Ad mV
abbrev yd:mV=some Qv:=AL o5
abbrev Qc:=tr [(20,23),(63,66),(83,89),(118,123)] false [(0,Dy 11),(2,Dy 14),(3,av [0,1,3,4,5,6,7,8,9,2,10,11]),(4,av [0,1,2,3,4,5,6,8,9,10,11,7,12,13]),(6,av [0,1,2,3,4,5,6,7,8,9,15,10,11,12,13,14,16,17,18]),(8,Dy 10),(9,av [0,1,2,3,4,5,6,7,8,9,10,11,12,13,14,20,15,16,17,18,19,21,22,23]),(11,Dy 7),(12,Dy 11)] 0 Proofs.Tryz.f202
def GH:=Ad Qc
abbrev aY:Qc=some GH:=AL o5
abbrev da:=tr [(3,5)] false [] 0 Proofs.Tryz.f203
def Ng:=Ad da
abbrev uW:da=some Ng:=AL o5
abbrev Tv:=tr [(14,28),(30,33),(35,39),(47,50),(52,70),(78,81),(83,101),(134,144),(146,149),(151,162),(194,197)] false [(5,Dy 7),(8,Dy 7),(12,av [0,1,8,9,10,11,12,13,14,2,3,4,5,6,7,15]),(13,av [0,1,2,3,4,5,6,7,8,9,11,12,13,14,10,15]),(18,Dy 18),(19,av [0,1,2,3,4,5,12,13,14,15,6,7,8,9,10,11,16]),(0,Dy 7)] 0 Proofs.Tryz.f204
def HT:=Ad Tv
abbrev eN:Tv=some HT:=AL o5
abbrev Vc:=tr [(8,17)] false [] 0 Proofs.Tryz.f205
def I7:=Ad Vc
abbrev mE:Vc=some I7:=AL o5
abbrev Ee:=tr [(6,6),(10,15),(17,18)] false [] 0 Proofs.Tryz.f216
def CB:=Ad Ee
abbrev Js:Ee=some CB:=AL o5
abbrev Mr:=tr [(5,8)] false [] 0 Proofs.Tryz.f217
def EI:=Ad Mr
abbrev U7:Mr=some EI:=AL o5
abbrev EF:=tr [(6,6),(10,15),(17,18)] false [] 0 Proofs.Tryz.f218
def Bz:=Ad EF
abbrev Iz:EF=some Bz:=AL o5
abbrev SR:=tr [(5,8)] false [] 0 Proofs.Tryz.f219
def Dz:=Ad SR
abbrev UB:SR=some Dz:=AL o5
abbrev Hx:=tr [(6,6),(10,15),(17,18)] false [] 0 Proofs.Tryz.f220
def Cx:=Ad Hx
abbrev P0:Hx=some Cx:=AL o5
abbrev SQ:=tr [(5,8)] false [] 0 Proofs.Tryz.f221
def G7:=Ad SQ
abbrev cu:SQ=some G7:=AL o5
abbrev TD:=tr [(10,19),(25,27),(44,44)] false [(5,av [0,1,2,3,4,5,6,7,8,9,10,11,13,14,12,15])] 0 Proofs.Tryz.f222
def HQ:=Ad TD
abbrev ed:TD=some HQ:=AL o5
def F:T AF:=(.n none (.n none (.n (some EU) (.n (some HJ) (.n (some X1) (.n (some X6) (.n none .e (.n (some FY) .e .e)) .e) (.n (some QZ) (.n (some Nh) (.n (some JI) .e .e) .e) (.n (some IX) (.n (some Li) .e .e) .e))) (.n (some IU) (.n none (.n (some On) (.n (some CU) .e .e) (.n (some Kk) .e .e)) (.n (some Di) (.n (some Nr) .e .e) .e)) (.n (some MF) (.n (some CP) .e .e) (.n (some Nc) .e .e)))) (.n none (.n (some YV) (.n (some Qy) (.n (some CG) .e (.n (some EZ) .e .e)) .e) (.n (some Xh) (.n (some Fa) (.n (some Gv) .e .e) .e) (.n (some G0) (.n (some Gu) .e .e) .e))) (.n (some Ed) (.n (some I9) (.n none (.n (some Nf) .e .e) (.n (some Ng) .e .e)) (.n (some JE) (.n (some Ki) .e .e) .e)) (.n (some JG) (.n (some IQ) .e (.n (some Dz) .e .e)) .e)))) (.n none (.n (some J1) (.n none (.n (some Cd) (.n (some CQ) .e (.n (some IA) .e .e)) .e) (.n (some MP) (.n (some MC) (.n (some He) .e .e) .e) (.n (some GG) (.n (some HS) .e .e) .e))) (.n (some I8) (.n (some Ov) (.n (some Oq) (.n (some D8) .e .e) (.n (some Qv) .e .e)) (.n (some Nb) (.n (some Gj) .e .e) .e)) (.n (some C7) (.n (some QT) .e (.n (some EI) .e .e)) (.n (some Cc) .e .e)))) (.n none (.n (some Gz) (.n (some I0) (.n (some Cr) (.n (some CY) .e .e) (.n (some IR) .e .e)) (.n (some C8) (.n (some Ej) .e .e) .e)) (.n (some KP) (.n (some MK) (.n (some E5) .e .e) .e) (.n (some Nq) .e .e))) (.n none (.n (some JB) (.n none (.n (some DK) .e .e) (.n (some I7) .e .e)) (.n (some DH) (.n (some MQ) .e .e) .e)) (.n (some Na) (.n (some I1) .e (.n (some G7) .e .e)) (.n none (.n (some Dv) .e .e) .e)))))) (.n none (.n none (.n (some MA) (.n (some VL) (.n (some L7) (.n none .e (.n (some FW) .e .e)) .e) (.n (some je) (.n (some KM) (.n (some HX) .e .e) .e) (.n (some G8) (.n (some C0) .e .e) .e))) (.n (some J2) (.n none (.n (some MD) (.n (some D6) .e .e) (.n (some HR) .e .e)) (.n none (.n (some MI) .e .e) .e)) (.n (some Kd) (.n (some IJ) .e (.n (some CB) .e .e)) (.n (some E6) .e .e)))) (.n none (.n (some G2) (.n (some J3) (.n (some I4) .e (.n (some IH) .e .e)) (.n (some DJ) (.n (some Ez) .e .e) .e)) (.n (some GJ) (.n (some F8) (.n (some Fe) .e .e) .e) (.n (some GF) .e .e))) (.n none (.n (some Kj) (.n none (.n (some Np) .e .e) (.n (some HT) .e .e)) (.n (some J7) (.n (some J0) .e .e) .e)) (.n (some IN) (.n (some Dl) .e (.n (some Cx) .e .e)) (.n none (.n (some D7) .e .e) .e))))) (.n none (.n (some JH) (.n (some Gi) (.n (some Br) (.n (some I5) .e (.n (some Hu) .e .e)) .e) (.n (some E7) (.n (some F6) (.n (some E8) .e .e) .e) (.n (some Ff) (.n (some KB) .e .e) .e))) (.n (some JC) (.n none (.n none (.n (some MM) .e .e) (.n (some GH) .e .e)) (.n (some Ox) (.n (some Hd) .e .e) .e)) (.n (some S2) (.n (some VJ) .e (.n (some Bz) .e .e)) .e))) (.n (some bY) (.n (some KI) (.n none (.n (some Cy) (.n (some EM) .e .e) (.n (some I6) .e .e)) (.n (some CM) (.n (some DY) .e .e) .e)) (.n (some JF) (.n (some VI) .e .e) (.n (some F7) .e .e))) (.n (some DI) (.n (some J8) (.n none (.n (some HW) .e .e) .e) (.n (some BO) (.n (some Ou) .e .e) .e)) (.n (some Eg) (.n (some Cz) .e (.n (some HQ) .e .e)) (.n none (.n (some E4) .e .e) .e)))))))
abbrev Mm:T.get F 3=some EU:=o5
abbrev p8:T.get F 8=some MA:=o5
abbrev Nu:T.get F 9=some J1:=o5
abbrev Ul:T.get F 10=some JH:=o5
abbrev AHO:T.get F 14=some bY:=o5
abbrev AF1:T.get F 15=some X1:=o5
abbrev ACY:T.get F 16=some VL:=o5
abbrev AH2:T.get F 19=some YV:=o5
abbrev ny:T.get F 22=some KI:=o5
abbrev iY:T.get F 23=some IU:=o5
abbrev nF:T.get F 24=some J2:=o5
abbrev lh:T.get F 25=some I8:=o5
abbrev kH:T.get F 26=some JC:=o5
abbrev PE:T.get F 27=some Ed:=o5
abbrev Ra:T.get F 30=some DI:=o5
abbrev AEx:T.get F 31=some X6:=o5
abbrev rn:T.get F 32=some L7:=o5
abbrev Nj:T.get F 33=some Cd:=o5
abbrev Ik:T.get F 34=some Br:=o5
abbrev yq:T.get F 35=some Qy:=o5
abbrev mj:T.get F 36=some J3:=o5
abbrev ku:T.get F 37=some I0:=o5
abbrev wg:T.get F 41=some Ov:=o5
abbrev jw:T.get F 43=some I9:=o5
abbrev mf:T.get F 44=some Kj:=o5
abbrev kI:T.get F 45=some JB:=o5
abbrev ol:T.get F 46=some J8:=o5
abbrev zA:T.get F 47=some QZ:=o5
abbrev AKZ:T.get F 48=some je:=o5
abbrev pS:T.get F 49=some MP:=o5
abbrev XF:T.get F 50=some E7:=o5
abbrev AE2:T.get F 51=some Xh:=o5
abbrev Z5:T.get F 52=some GJ:=o5
abbrev og:T.get F 53=some KP:=o5
abbrev lg:T.get F 54=some JF:=o5
abbrev sC:T.get F 55=some MF:=o5
abbrev oP:T.get F 56=some Kd:=o5
abbrev Qi:T.get F 57=some C7:=o5
abbrev AAK:T.get F 58=some S2:=o5
abbrev kx:T.get F 59=some JG:=o5
abbrev jM:T.get F 60=some IN:=o5
abbrev uF:T.get F 61=some Na:=o5
abbrev PL:T.get F 62=some Eg:=o5
abbrev Lg:T.get F 65=some CQ:=o5
abbrev kK:T.get F 66=some I5:=o5
abbrev KR:T.get F 67=some CG:=o5
abbrev kL:T.get F 68=some I4:=o5
abbrev PH:T.get F 69=some Cr:=o5
abbrev QP:T.get F 70=some Cy:=o5
abbrev wR:T.get F 71=some On:=o5
abbrev pU:T.get F 72=some MD:=o5
abbrev wF:T.get F 73=some Oq:=o5
abbrev ua:T.get F 79=some Nh:=o5
abbrev mq:T.get F 80=some KM:=o5
abbrev py:T.get F 81=some MC:=o5
abbrev Zg:T.get F 82=some F6:=o5
abbrev Yu:T.get F 83=some Fa:=o5
abbrev Zj:T.get F 84=some F8:=o5
abbrev rE:T.get F 85=some MK:=o5
abbrev ABw:T.get F 86=some VI:=o5
abbrev LX:T.get F 87=some CP:=o5
abbrev jT:T.get F 88=some IJ:=o5
abbrev xg:T.get F 89=some QT:=o5
abbrev AC2:T.get F 90=some VJ:=o5
abbrev fp:T.get F 91=some IQ:=o5
abbrev TF:T.get F 92=some Dl:=o5
abbrev kZ:T.get F 93=some I1:=o5
abbrev P7:T.get F 94=some Cz:=o5
abbrev RY:T.get F 100=some DJ:=o5
abbrev Qg:T.get F 101=some C8:=o5
abbrev LA:T.get F 102=some CM:=o5
abbrev tG:T.get F 105=some Nb:=o5
abbrev wS:T.get F 106=some Ox:=o5
abbrev lF:T.get F 107=some JE:=o5
abbrev oO:T.get F 108=some J7:=o5
abbrev RW:T.get F 109=some DH:=o5
abbrev F4:T.get F 110=some BO:=o5
abbrev fU:T.get F 111=some IX:=o5
abbrev bi:T.get F 112=some G8:=o5
abbrev Zo:T.get F 113=some GG:=o5
abbrev Yd:T.get F 114=some Ff:=o5
abbrev cG:T.get F 115=some G0:=o5
abbrev Y6:T.get F 116=some GF:=o5
abbrev tZ:T.get F 117=some Nq:=o5
abbrev Zz:T.get F 118=some F7:=o5
abbrev tm:T.get F 119=some Nc:=o5
abbrev Ws:T.get F 120=some E6:=o5
abbrev NY:T.get F 121=some Cc:=o5
abbrev NP:T.get F 133=some CY:=o5
abbrev MY:T.get F 135=some CU:=o5
abbrev qY:T.get F 138=some MM:=o5
abbrev uM:T.get F 139=some Nf:=o5
abbrev tX:T.get F 140=some Np:=o5
abbrev Rl:T.get F 141=some DK:=o5
abbrev ARd:T.get F 142=some HW:=o5
abbrev jz:T.get F 143=some JI:=o5
abbrev eA:T.get F 144=some HX:=o5
abbrev MB:T.get F 145=some He:=o5
abbrev XK:T.get F 146=some E8:=o5
abbrev cy:T.get F 147=some Gv:=o5
abbrev Yg:T.get F 148=some Fe:=o5
abbrev XE:T.get F 149=some E5:=o5
abbrev uJ:T.get F 167=some Nr:=o5
abbrev qO:T.get F 168=some MI:=o5
abbrev cW:T.get F 169=some Gj:=o5
abbrev ASj:T.get F 170=some Hd:=o5
abbrev mz:T.get F 171=some Ki:=o5
abbrev ot:T.get F 172=some J0:=o5
abbrev pM:T.get F 173=some MQ:=o5
abbrev wH:T.get F 174=some Ou:=o5
abbrev Px:T.get F 176=some C0:=o5
abbrev eE:T.get F 177=some HS:=o5
abbrev oK:T.get F 178=some KB:=o5
abbrev cN:T.get F 179=some Gu:=o5
abbrev XD:T.get F 190=some E4:=o5
abbrev Yi:T.get F 191=some FY:=o5
abbrev Yf:T.get F 192=some FW:=o5
abbrev jD:T.get F 193=some IA:=o5
abbrev iT:T.get F 194=some Hu:=o5
abbrev WY:T.get F 195=some EZ:=o5
abbrev gz:T.get F 196=some IH:=o5
abbrev gI:T.get F 197=some IR:=o5
abbrev j0:T.get F 198=some I6:=o5
abbrev oI:T.get F 199=some Kk:=o5
abbrev eO:T.get F 200=some HR:=o5
abbrev za:T.get F 201=some Qv:=o5
abbrev aR:T.get F 202=some GH:=o5
abbrev uE:T.get F 203=some Ng:=o5
abbrev vq:T.get F 204=some HT:=o5
abbrev kY:T.get F 205=some I7:=o5
abbrev Jr:T.get F 216=some CB:=o5
abbrev U6:T.get F 217=some EI:=o5
abbrev Iw:T.get F 218=some Bz:=o5
abbrev UI:T.get F 219=some Dz:=o5
abbrev P8:T.get F 220=some Cx:=o5
abbrev bZ:T.get F 221=some G7:=o5
abbrev fF:T.get F 222=some HQ:=o5
abbrev B3(n:Nat)(a:AF):Prop:=mp Go.Proofs.Tryz.prog F n a
abbrev ok1{n:Nat}{a:AF}{fn:Func}{loc:Nat->Bool}{f:Bool}{d:AFc}{dg:Nat}(g:Go.Proofs.Tryz.prog.funcs[n]? =some fn)(i:fr Go.Proofs.Tryz.prog loc f d dg fn=some a)(k:(fn.name== "runtime.NumGoroutine")=false:=by kernel_rfl)(m:a.dg=dg:=by kernel_rfl)(hi:AGM a.dp=true:=by kernel_rfl):B3 n a:=.one g k i m hi
abbrev Ll:B3 3 EU:=ok1 Proofs.Tryz.func3 L8
abbrev NE:B3 7 HJ:=ok1 Proofs.Tryz.func7 QY
abbrev jv:B3 8 MA:=ok1 Proofs.Tryz.func8 rI
abbrev hY:B3 9 J1:=ok1 Proofs.Tryz.func9 o7
abbrev Sc:B3 10 JH:=ok1 Proofs.Tryz.func10 Uh
abbrev AC7:B3 14 bY:=ok1 Proofs.Tryz.func14 AH9
abbrev AAU:B3 15 X1:=ok1 Proofs.Tryz.func15 AFG
abbrev zk:B3 16 VL:=ok1 Proofs.Tryz.func16 AB4
abbrev L9:B3 18 Gi:=ok1 Proofs.Tryz.func18 NF
abbrev ADX:B3 19 YV:=ok1 Proofs.Tryz.func19 AGc
abbrev Mp:B3 20 G2:=ok1 Proofs.Tryz.func20 O9
abbrev Mq:B3 21 Gz:=ok1 Proofs.Tryz.func21 OX
abbrev fO:B3 22 KI:=ok1 Proofs.Tryz.func22 nU
abbrev bJ:B3 23 IU:=ok1 Proofs.Tryz.func23 jJ
abbrev My:B3 24 J2:=ok1 Proofs.Tryz.func24 Ow
abbrev eY:B3 25 I8:=ok1 Proofs.Tryz.func25 kW
abbrev fE:B3 26 JC:=ok1 Proofs.Tryz.func26 lr
abbrev Mw:B3 27 Ed:=ok1 Proofs.Tryz.func27 N0
abbrev QH:B3 30 DI:=ok1 Proofs.Tryz.func30 Re
abbrev AAS:B3 31 X6:=ok1 Proofs.Tryz.func31 AF8
abbrev lH:B3 32 L7:=ok1 Proofs.Tryz.func32 rO
abbrev MR:B3 33 Cd:=ok1 Proofs.Tryz.func33 Nm
abbrev Hn:B3 34 Br:=ok1 Proofs.Tryz.func34 Ie
abbrev sq:B3 35 Qy:=ok1 Proofs.Tryz.func35 yw
abbrev fL:B3 36 J3:=ok1 Proofs.Tryz.func36 om
abbrev eD:B3 37 I0:=ok1 Proofs.Tryz.func37 lN
abbrev pV:B3 41 Ov:=ok1 Proofs.Tryz.func41 wK
abbrev er:B3 43 I9:=ok1 Proofs.Tryz.func43 lw
abbrev ig:B3 44 Kj:=ok1 Proofs.Tryz.func44 oy
abbrev dz:B3 45 JB:=ok1 Proofs.Tryz.func45 kD
abbrev gL:B3 46 J8:=ok1 Proofs.Tryz.func46 mo
abbrev so:B3 47 QZ:=ok1 Proofs.Tryz.func47 yJ
abbrev AFv:B3 48 je:=ok1 Proofs.Tryz.func48 AKg
abbrev kT:B3 49 MP:=ok1 Proofs.Tryz.func49 rW
abbrev VA:B3 50 E7:=ok1 Proofs.Tryz.func50 Wo
abbrev AAN:B3 51 Xh:=ok1 Proofs.Tryz.func51 AEy
abbrev XG:B3 52 GJ:=ok1 Proofs.Tryz.func52 ZY
abbrev iA:B3 53 KP:=ok1 Proofs.Tryz.func53 oz
abbrev eK:B3 54 JF:=ok1 Proofs.Tryz.func54 mC
abbrev AUl:B3 55 MF:=ok1 Proofs.Tryz.func55 sE
abbrev iF:B3 56 Kd:=ok1 Proofs.Tryz.func56 oi
abbrev PK:B3 57 C7:=ok1 Proofs.Tryz.func57 Qf
abbrev wA:B3 58 S2:=ok1 Proofs.Tryz.func58 AAI
abbrev eP:B3 59 JG:=ok1 Proofs.Tryz.func59 kM
abbrev bQ:B3 60 IN:=ok1 Proofs.Tryz.func60 jR
abbrev nh:B3 61 Na:=ok1 Proofs.Tryz.func61 uj
abbrev Mz:B3 62 Eg:=ok1 Proofs.Tryz.func62 N9
abbrev KC:B3 65 CQ:=ok1 Proofs.Tryz.func65 LW
abbrev eV:B3 66 I5:=ok1 Proofs.Tryz.func66 lL
abbrev Jn:B3 67 CG:=ok1 Proofs.Tryz.func67 KY
abbrev fC:B3 68 I4:=ok1 Proofs.Tryz.func68 lW
abbrev OI:B3 69 Cr:=ok1 Proofs.Tryz.func69 Oz
abbrev OM:B3 70 Cy:=ok1 Proofs.Tryz.func70 P9
abbrev pq:B3 71 On:=ok1 Proofs.Tryz.func71 wj
abbrev kF:B3 72 MD:=ok1 Proofs.Tryz.func72 PQ
abbrev rK:B3 73 Oq:=ok1 Proofs.Tryz.func73 wO
abbrev o8:B3 79 Nh:=ok1 Proofs.Tryz.func79 sx
abbrev iL:B3 80 KM:=ok1 Proofs.Tryz.func80 nq
abbrev ko:B3 81 MC:=ok1 Proofs.Tryz.func81 rZ
abbrev Wz:B3 82 F6:=ok1 Proofs.Tryz.func82 Zl
abbrev VU:B3 83 Fa:=ok1 Proofs.Tryz.func83 Yk
abbrev Wm:B3 84 F8:=ok1 Proofs.Tryz.func84 ZD
abbrev AUm:B3 85 MK:=ok1 Proofs.Tryz.func85 sK
abbrev yH:B3 86 VI:=ok1 Proofs.Tryz.func86 ADJ
abbrev Ka:B3 87 CP:=ok1 Proofs.Tryz.func87 LI
abbrev ay:B3 88 IJ:=ok1 Proofs.Tryz.func88 jS
abbrev sP:B3 89 QT:=ok1 Proofs.Tryz.func89 zi
abbrev zV:B3 90 VJ:=ok1 Proofs.Tryz.func90 AC6
abbrev br:B3 91 IQ:=ok1 Proofs.Tryz.func91 gD
abbrev RX:B3 92 Dl:=ok1 Proofs.Tryz.func92 TM
abbrev eQ:B3 93 I1:=ok1 Proofs.Tryz.func93 li
abbrev OZ:B3 94 Cz:=ok1 Proofs.Tryz.func94 QK
abbrev Py:B3 100 DJ:=ok1 Proofs.Tryz.func100 Rd
abbrev PS:B3 101 C8:=ok1 Proofs.Tryz.func101 Q2
abbrev Ju:B3 102 CM:=ok1 Proofs.Tryz.func102 K6
abbrev Ml:B3 103 Di:=ok1 Proofs.Tryz.func103 OH
abbrev nN:B3 105 Nb:=ok1 Proofs.Tryz.func105 ug
abbrev rT:B3 106 Ox:=ok1 Proofs.Tryz.func106 wQ
abbrev ew:B3 107 JE:=ok1 Proofs.Tryz.func107 kO
abbrev iW:B3 108 J7:=ok1 Proofs.Tryz.func108 o0
abbrev Pz:B3 109 DH:=ok1 Proofs.Tryz.func109 Rn
abbrev FZ:B3 110 BO:=ok1 Proofs.Tryz.func110 F5
abbrev bz:B3 111 IX:=ok1 Proofs.Tryz.func111 jI
abbrev Ym:B3 112 G8:=ok1 Proofs.Tryz.func112 bt
abbrev Ww:B3 113 GG:=ok1 Proofs.Tryz.func113 aX
abbrev WE:B3 114 Ff:=ok1 Proofs.Tryz.func114 Yl
abbrev YN:B3 115 G0:=ok1 Proofs.Tryz.func115 cY
abbrev XL:B3 116 GF:=ok1 Proofs.Tryz.func116 ZO
abbrev nH:B3 117 Nq:=ok1 Proofs.Tryz.func117 ARN
abbrev XH:B3 118 F7:=ok1 Proofs.Tryz.func118 ZK
abbrev oB:B3 119 Nc:=ok1 Proofs.Tryz.func119 tO
abbrev U5:B3 120 E6:=ok1 Proofs.Tryz.func120 Wn
abbrev MZ:B3 121 Cc:=ok1 Proofs.Tryz.func121 NT
abbrev LY:B3 133 CY:=ok1 Proofs.Tryz.func133 M7
abbrev OR:B3 134 EM:=ok1 Proofs.Tryz.func134 QB
abbrev M9:B3 135 CU:=ok1 Proofs.Tryz.func135 MX
abbrev N8:B3 136 D6:=ok1 Proofs.Tryz.func136 O2
abbrev N3:B3 137 D8:=ok1 Proofs.Tryz.func137 PB
abbrev kN:B3 138 MM:=ok1 Proofs.Tryz.func138 rD
abbrev o9:B3 139 Nf:=ok1 Proofs.Tryz.func139 tz
abbrev nZ:B3 140 Np:=ok1 Proofs.Tryz.func140 uD
abbrev QJ:B3 141 DK:=ok1 Proofs.Tryz.func141 Rc
abbrev aZ:B3 142 HW:=ok1 Proofs.Tryz.func142 ei
abbrev eH:B3 143 JI:=ok1 Proofs.Tryz.func143 ll
abbrev ZJ:B3 144 HX:=ok1 Proofs.Tryz.func144 dx
abbrev Z4:B3 145 He:=ok1 Proofs.Tryz.func145 eJ
abbrev U1:B3 146 E8:=ok1 Proofs.Tryz.func146 Wu
abbrev Yb:B3 147 Gv:=ok1 Proofs.Tryz.func147 cL
abbrev WB:B3 148 Fe:=ok1 Proofs.Tryz.func148 YR
abbrev U4:B3 149 E5:=ok1 Proofs.Tryz.func149 XM
abbrev QQ:B3 164 Ez:=ok1 Proofs.Tryz.func164 RV
abbrev O0:B3 165 Ej:=ok1 Proofs.Tryz.func165 Qe
abbrev MU:B3 166 DY:=ok1 Proofs.Tryz.func166 NW
abbrev mi:B3 167 Nr:=ok1 Proofs.Tryz.func167 tC
abbrev lK:B3 168 MI:=ok1 Proofs.Tryz.func168 pO
abbrev Y0:B3 169 Gj:=ok1 Proofs.Tryz.func169 bL
abbrev ZN:B3 170 Hd:=ok1 Proofs.Tryz.func170 eI
abbrev gY:B3 171 Ki:=ok1 Proofs.Tryz.func171 nr
abbrev gW:B3 172 J0:=ok1 Proofs.Tryz.func172 nz
abbrev lR:B3 173 MQ:=ok1 Proofs.Tryz.func173 qQ
abbrev qz:B3 174 Ou:=ok1 Proofs.Tryz.func174 wc
abbrev aH:B3 175 Li:=ok1 Proofs.Tryz.func175 du
abbrev Ol:B3 176 C0:=ok1 Proofs.Tryz.func176 QI
abbrev Z2:B3 177 HS:=ok1 Proofs.Tryz.func177 dw
abbrev ix:B3 178 KB:=ok1 Proofs.Tryz.func178 nP
abbrev YL:B3 179 Gu:=ok1 Proofs.Tryz.func179 cX
abbrev OF:B3 188 D7:=ok1 Proofs.Tryz.func188 O1
abbrev Ns:B3 189 Dv:=ok1 Proofs.Tryz.func189 Od
abbrev VD:B3 190 E4:=ok1 Proofs.Tryz.func190 XO
abbrev V3:B3 191 FY:=ok1 Proofs.Tryz.func191 YQ
abbrev WG:B3 192 FW:=ok1 Proofs.Tryz.func192 Ya
abbrev ch:B3 193 IA:=ok1 Proofs.Tryz.func193 iw
abbrev bp:B3 194 Hu:=ok1 Proofs.Tryz.func194 gU
abbrev UL:B3 195 EZ:=ok1 Proofs.Tryz.func195 VP
abbrev cg:B3 196 IH:=ok1 Proofs.Tryz.func196 iy
abbrev c9:B3 197 IR:=ok1 Proofs.Tryz.func197 gl
abbrev eF:B3 198 I6:=ok1 Proofs.Tryz.func198 kX
abbrev fh:B3 199 Kk:=ok1 Proofs.Tryz.func199 pC
abbrev Za:B3 200 HR:=ok1 Proofs.Tryz.func200 dk
abbrev sy:B3 201 Qv:=ok1 Proofs.Tryz.func201 yd
abbrev XJ:B3 202 GH:=ok1 Proofs.Tryz.func202 aY
abbrev oJ:B3 203 Ng:=ok1 Proofs.Tryz.func203 uW
abbrev Y9:B3 204 HT:=ok1 Proofs.Tryz.func204 eN
abbrev eT:B3 205 I7:=ok1 Proofs.Tryz.func205 mE
abbrev Iy:B3 216 CB:=ok1 Proofs.Tryz.func216 Js
abbrev Tu:B3 217 EI:=ok1 Proofs.Tryz.func217 U7
abbrev IG:B3 218 Bz:=ok1 Proofs.Tryz.func218 Iz
abbrev Sl:B3 219 Dz:=ok1 Proofs.Tryz.func219 UB
abbrev OV:B3 220 Cx:=ok1 Proofs.Tryz.func220 P0
abbrev YX:B3 221 G7:=ok1 Proofs.Tryz.func221 cu
abbrev ZG:B3 222 HQ:=ok1 Proofs.Tryz.func222 ed
abbrev all_good:T.All (λp d=>mp Go.Proofs.Tryz.prog F p.key d) F:=(.n0 (.n0 (.n1 Ll (.n1 NE (.n1 AAU (.n1 AAS (.n0 .e (.n1 V3 .e .e)) .e) (.n1 so (.n1 o8 (.n1 eH .e .e) .e) (.n1 bz (.n1 aH .e .e) .e))) (.n1 bJ (.n0 (.n1 pq (.n1 M9 .e .e) (.n1 fh .e .e)) (.n1 Ml (.n1 mi .e .e) .e)) (.n1 AUl (.n1 Ka .e .e) (.n1 oB .e .e)))) (.n0 (.n1 ADX (.n1 sq (.n1 Jn .e (.n1 UL .e .e)) .e) (.n1 AAN (.n1 VU (.n1 Yb .e .e) .e) (.n1 YN (.n1 YL .e .e) .e))) (.n1 Mw (.n1 er (.n0 (.n1 o9 .e .e) (.n1 oJ .e .e)) (.n1 ew (.n1 gY .e .e) .e)) (.n1 eP (.n1 br .e (.n1 Sl .e .e)) .e)))) (.n0 (.n1 hY (.n0 (.n1 MR (.n1 KC .e (.n1 ch .e .e)) .e) (.n1 kT (.n1 ko (.n1 Z4 .e .e) .e) (.n1 Ww (.n1 Z2 .e .e) .e))) (.n1 eY (.n1 pV (.n1 rK (.n1 N3 .e .e) (.n1 sy .e .e)) (.n1 nN (.n1 Y0 .e .e) .e)) (.n1 PK (.n1 sP .e (.n1 Tu .e .e)) (.n1 MZ .e .e)))) (.n0 (.n1 Mq (.n1 eD (.n1 OI (.n1 LY .e .e) (.n1 c9 .e .e)) (.n1 PS (.n1 O0 .e .e) .e)) (.n1 iA (.n1 AUm (.n1 U4 .e .e) .e) (.n1 nH .e .e))) (.n0 (.n1 dz (.n0 (.n1 QJ .e .e) (.n1 eT .e .e)) (.n1 Pz (.n1 lR .e .e) .e)) (.n1 nh (.n1 eQ .e (.n1 YX .e .e)) (.n0 (.n1 Ns .e .e) .e)))))) (.n0 (.n0 (.n1 jv (.n1 zk (.n1 lH (.n0 .e (.n1 WG .e .e)) .e) (.n1 AFv (.n1 iL (.n1 ZJ .e .e) .e) (.n1 Ym (.n1 Ol .e .e) .e))) (.n1 My (.n0 (.n1 kF (.n1 N8 .e .e) (.n1 Za .e .e)) (.n0 (.n1 lK .e .e) .e)) (.n1 iF (.n1 ay .e (.n1 Iy .e .e)) (.n1 U5 .e .e)))) (.n0 (.n1 Mp (.n1 fL (.n1 fC .e (.n1 cg .e .e)) (.n1 Py (.n1 QQ .e .e) .e)) (.n1 XG (.n1 Wm (.n1 WB .e .e) .e) (.n1 XL .e .e))) (.n0 (.n1 ig (.n0 (.n1 nZ .e .e) (.n1 Y9 .e .e)) (.n1 iW (.n1 gW .e .e) .e)) (.n1 bQ (.n1 RX .e (.n1 OV .e .e)) (.n0 (.n1 OF .e .e) .e))))) (.n0 (.n1 Sc (.n1 L9 (.n1 Hn (.n1 eV .e (.n1 bp .e .e)) .e) (.n1 VA (.n1 Wz (.n1 U1 .e .e) .e) (.n1 WE (.n1 ix .e .e) .e))) (.n1 fE (.n0 (.n0 (.n1 kN .e .e) (.n1 XJ .e .e)) (.n1 rT (.n1 ZN .e .e) .e)) (.n1 wA (.n1 zV .e (.n1 IG .e .e)) .e))) (.n1 AC7 (.n1 fO (.n0 (.n1 OM (.n1 OR .e .e) (.n1 eF .e .e)) (.n1 Ju (.n1 MU .e .e) .e)) (.n1 eK (.n1 yH .e .e) (.n1 XH .e .e))) (.n1 QH (.n1 gL (.n0 (.n1 aZ .e .e) .e) (.n1 FZ (.n1 qz .e .e) .e)) (.n1 Mz (.n1 OZ .e (.n1 ZG .e .e)) (.n0 (.n1 VD .e .e) .e)))))))
abbrev ATk:ABA Go.Proofs.Tryz.prog F:=.AR2 o5 all_good
end Go.RL
