/- Part of a proof; nothing is assumed. -/
import Derived.Test.YtmbhlmocojopaaaGreatDoorEngA
import Derived.Test.YtmbhlmocojopaaaGreatDoorEngF
import Derived.Test.YtmbhlmocojopaaaGreatDoorProg
set_option linter.unusedVariables false
set_option linter.unusedSimpArgs false
noncomputable section
namespace Go.RL
open Go.DW
set_option maxRecDepth 100000
abbrev tr(l:List (Nat×Nat))(d:Bool)(o:AJq)(g:Nat)(f:Func):Option AF:=trF Go.Proofs.Tryz.prog (inR l) d o g f
abbrev YL:=tr [(14,14),(16,32),(34,42),(47,73),(75,75)] false [] 0 Proofs.Tryz.f5
def MP:=BA YL
theorem ou:YL=some MP:=Ac (by kernel_rfl)
abbrev kT:=tr [(9,14),(25,30)] false [(4,qO [0,2,3,4,9,10,1,5,6,7,8,11,12]),(8,qO [0,2,3,4,9,10,1,5,6,7,8,11,12]),(9,Nu 25)] 0 Proofs.Tryz.f13
def Xk:=BA kT
theorem AA7:kT=some Xk:=Ac (by kernel_rfl)
abbrev Zv:=tr [(6,16),(46,51),(63,64),(88,90)] false [(3,Nu 11),(4,Nu 9),(5,Nu 12),(8,Nu 11),(10,Nu 12),(11,Nu 12)] 0 Proofs.Tryz.f14
def OV:=BA Zv
theorem vX:Zv=some OV:=Ac (by kernel_rfl)
abbrev gJ:=tr [(6,6),(11,20)] false [] 0 Proofs.Tryz.f16
def Qk:=BA gJ
theorem zu:gJ=some Qk:=Ac (by kernel_rfl)
abbrev lD:=tr [(5,30)] false [] 0 Proofs.Tryz.f17
def SX:=BA lD
theorem AAm:lD=some SX:=Ac (by kernel_rfl)
abbrev ZI:=tr [(5,23),(25,25),(30,46),(48,48)] false [] 0 Proofs.Tryz.f19
def NT:=BA ZI
theorem rE:ZI=some NT:=Ac (by kernel_rfl)
abbrev yT:=tr [(12,18),(32,36),(43,51),(56,58),(66,71),(78,79)] false [(2,Nu 9),(3,Nu 6),(6,Nu 7),(12,Nu 8),(15,Nu 7)] 0 Proofs.Tryz.f20
def X3:=BA yT
theorem AFe:yT=some X3:=Ac (by kernel_rfl)
abbrev AG3:=tr [(1,1)] false [] 0 Proofs.Tryz.f30
def nZ:=BA AG3
theorem ALQ:AG3=some nZ:=Ac (by kernel_rfl)
abbrev AFK:=tr [(6,9),(14,15),(23,24)] false [(5,Nu 8)] 0 Proofs.Tryz.f36
def gy:=BA AFK
theorem AIv:AFK=some gy:=Ac (by kernel_rfl)
abbrev bQ:=tr [(10,10),(13,14),(18,18),(21,31),(33,49),(51,59),(61,62),(64,66),(71,77),(79,88),(90,91),(96,105),(107,127),(129,129)] false [] 0 Proofs.Tryz.f37
def PS:=BA bQ
theorem yG:bQ=some PS:=Ac (by kernel_rfl)
abbrev vU:=tr [(9,9),(14,22),(24,29)] false [] 0 Proofs.Tryz.f39
def Zp:=BA vU
theorem ADZ:vU=some Zp:=Ac (by kernel_rfl)
abbrev AIo:=tr [(3,4)] false [] 0 Proofs.Tryz.f40
def wM:=BA AIo
theorem ANp:AIo=some wM:=Ac (by kernel_rfl)
abbrev lH:=tr [(1,1)] false [] 0 Proofs.Tryz.f41
def SI:=BA lH
theorem AAn:lH=some SI:=Ac (by kernel_rfl)
abbrev Vh:=tr [(17,24),(26,31),(36,52),(63,63),(78,81)] false [(11,Nu 11),(13,qO [0,1,4,6,7,2,3,5,8,9,10,11,12,13,14])] 0 Proofs.Tryz.f42
def Jj:=BA Vh
theorem dw:Vh=some Jj:=Ac (by kernel_rfl)
abbrev AFL:=tr [(1,1)] false [] 0 Proofs.Tryz.f43
def fM:=BA AFL
theorem AKL:AFL=some fM:=Ac (by kernel_rfl)
abbrev X7:=tr [(6,10),(39,52)] false [(3,Nu 28)] 0 Proofs.Tryz.f44
def LJ:=BA X7
theorem kD:X7=some LJ:=Ac (by kernel_rfl)
abbrev AGR:=tr [(14,14),(19,20),(28,30)] false [(1,qO [0,1,2,3,4,5,8,6,7,9]),(5,Nu 8)] 0 Proofs.Tryz.f45
def oP:=BA AGR
theorem ALn:AGR=some oP:=Ac (by kernel_rfl)
abbrev P9:=tr [(6,9),(11,11),(15,15),(25,25)] false [(6,Nu 9)] 0 Proofs.Tryz.f46
def Gm:=BA P9
theorem YJ:P9=some Gm:=Ac (by kernel_rfl)
abbrev Ei:=tr [(10,13),(19,29),(31,31)] false [] 0 Proofs.Tryz.f47
def Bz:=BA Ei
theorem JA:Ei=some Bz:=Ac (by kernel_rfl)
abbrev iH:=tr [(5,37)] false [] 0 Proofs.Tryz.f48
def QN:=BA iH
theorem zU:iH=some QN:=Ac (by kernel_rfl)
abbrev ZO:=tr [(9,14),(20,53),(55,55),(60,63),(65,66)] false [] 0 Proofs.Tryz.f50
def NR:=BA ZO
theorem rQ:ZO=some NR:=Ac (by kernel_rfl)
abbrev gX:=tr [(8,8),(10,26)] false [] 0 Proofs.Tryz.f51
def QG:=BA gX
theorem zo:gX=some QG:=Ac (by kernel_rfl)
abbrev lM:=tr [(5,30)] false [] 0 Proofs.Tryz.f52
def Sv:=BA lM
theorem ABJ:lM=some Sv:=Ac (by kernel_rfl)
abbrev Ll:=tr [(3,3),(5,7)] false [] 0 Proofs.Tryz.f53
def Eu:=BA Ll
theorem Uf:Ll=some Eu:=Ac (by kernel_rfl)
abbrev XK:=tr [(7,15),(20,33)] false [] 0 Proofs.Tryz.f54
def Kt:=BA XK
theorem kJ:XK=some Kt:=Ac (by kernel_rfl)
abbrev yj:=tr [(8,14),(18,24),(31,32)] false [(3,Nu 4),(7,Nu 7)] 0 Proofs.Tryz.f58
def dR:=BA yj
theorem AEI:yj=some dR:=Ac (by kernel_rfl)
abbrev Zw:=tr [(12,12),(16,16),(19,24),(29,48),(52,53)] false [(8,Nu 5)] 0 Proofs.Tryz.f59
def Oc:=BA Zw
theorem uO:Zw=some Oc:=Ac (by kernel_rfl)
abbrev bV:=tr [(9,9),(11,22),(24,24),(31,31)] false [(6,[(0,.plain),(1,.plain),(2,.plain),(4,.plain),(5,.plain),(3,.plain),(6,.wr),(7,.wr)])] 0 Proofs.Tryz.f67
def PL:=BA bV
theorem xE:bV=some PL:=Ac (by kernel_rfl)
abbrev dY:=tr [(10,10),(14,14),(17,22),(27,40),(44,45)] false [(8,Nu 5)] 0 Proofs.Tryz.f68
def PY:=BA dY
theorem xg:dY=some PY:=Ac (by kernel_rfl)
abbrev fP:=tr [(5,7)] false [] 0 Proofs.Tryz.f71
def QL:=BA fP
theorem y8:fP=some QL:=Ac (by kernel_rfl)
abbrev O6:=tr [(5,8)] false [] 0 Proofs.Tryz.f77
def Gf:=BA O6
theorem XH:O6=some Gf:=Ac (by kernel_rfl)
abbrev AAr:=tr [(5,6),(10,10),(29,31),(35,35),(54,54)] false [(4,Nu 18),(10,Nu 18)] 0 Proofs.Tryz.f78
def Yx:=BA AAr
theorem AFr:AAr=some Yx:=Ac (by kernel_rfl)
abbrev cO:=tr [(7,7),(13,16),(18,20),(22,29),(31,31)] false [] 0 Proofs.Tryz.f79
def PI:=BA cO
theorem xU:cO=some PI:=Ac (by kernel_rfl)
abbrev qA:=tr [(5,30)] false [] 0 Proofs.Tryz.f80
def Ul:=BA qA
theorem ABp:qA=some Ul:=Ac (by kernel_rfl)
abbrev WL:=tr [(12,19),(21,39)] false [] 0 Proofs.Tryz.f82
def Jz:=BA WL
theorem jX:WL=some Jz:=Ac (by kernel_rfl)
abbrev Xy:=tr [(10,24),(26,26),(31,33),(38,40),(45,50),(52,68),(70,82)] false [(4,Nu 4),(6,Nu 4),(8,Nu 4)] 0 Proofs.Tryz.f83
def LP:=BA Xy
theorem jv:Xy=some LP:=Ac (by kernel_rfl)
abbrev P7:=tr [(3,3),(5,7)] false [] 0 Proofs.Tryz.f84
def Gi:=BA P7
theorem X9:P7=some Gi:=Ac (by kernel_rfl)
abbrev AEo:=tr [(6,13),(18,28)] false [] 0 Proofs.Tryz.f85
def gU:=BA AEo
theorem AKH:AEo=some gU:=Ac (by kernel_rfl)
abbrev kE:=tr [(2,11)] false [] 0 Proofs.Tryz.f86
def Sm:=BA kE
theorem AAp:kE=some Sm:=Ac (by kernel_rfl)
abbrev Fb:=tr [(10,13),(19,29),(31,31)] false [] 0 Proofs.Tryz.f87
def CX:=BA Fb
theorem KQ:Fb=some CX:=Ac (by kernel_rfl)
abbrev qP:=tr [(5,44)] false [] 0 Proofs.Tryz.f88
def Ur:=BA qP
theorem ACe:qP=some Ur:=Ac (by kernel_rfl)
abbrev pz:=tr [(7,26),(28,28),(33,38),(40,40)] false [] 0 Proofs.Tryz.f90
def Un:=BA pz
theorem ACX:pz=some Un:=Ac (by kernel_rfl)
abbrev Fe:=tr [(10,13),(19,29),(31,31)] false [] 0 Proofs.Tryz.f91
def CW:=BA Fe
theorem KW:Fe=some CW:=Ac (by kernel_rfl)
abbrev Z9:=tr [] false [(1,qO [0,1,2,3,4,9,5,6,7,8,10,11]),(2,Nu 18),(3,qO [0,1,2,3,4,5,6,7,8,10,11,12,13,14,15,9,16,17,18,19,20,21,22,23])] 0 Proofs.Tryz.f92
def OU:=BA Z9
theorem uV:Z9=some OU:=Ac (by kernel_rfl)
abbrev YW:=tr [(9,14),(19,39)] false [] 0 Proofs.Tryz.f93
def MO:=BA YW
theorem oJ:YW=some MO:=Ac (by kernel_rfl)
abbrev AGi:=tr [(8,13),(20,27),(35,40),(42,43)] false [(3,Nu 7),(8,Nu 8)] 0 Proofs.Tryz.f97
def zD:=BA AGi
theorem ALN:AGi=some zD:=Ac (by kernel_rfl)
abbrev ZR:=tr [(5,19),(21,32),(34,35),(37,40),(50,57),(59,61),(69,84),(86,88)] false [(11,qO [0,1,2,4,3,5,6,7,8,9]),(15,Nu 8)] 0 Proofs.Tryz.f98
def SC:=BA ZR
theorem ql:ZR=some SC:=Ac (by kernel_rfl)
abbrev gG:=tr [(3,8)] false [] 0 Proofs.Tryz.f99
def Vx:=BA gG
theorem AAY:gG=some Vx:=Ac (by kernel_rfl)
abbrev dB:=tr [(8,8),(13,17),(19,21)] false [] 0 Proofs.Tryz.f100
def PU:=BA dB
theorem xI:dB=some PU:=Ac (by kernel_rfl)
abbrev gY:=tr [(8,8),(13,17),(19,22)] false [] 0 Proofs.Tryz.f108
def QX:=BA gY
theorem zf:gY=some QX:=Ac (by kernel_rfl)
abbrev Og:=tr [(5,7)] false [] 0 Proofs.Tryz.f110
def F5:=BA Og
theorem Wx:Og=some F5:=Ac (by kernel_rfl)
abbrev lV:=tr [(3,22)] false [] 0 Proofs.Tryz.f114
def SK:=BA lV
theorem ABj:lV=some SK:=Ac (by kernel_rfl)
abbrev ADR:=tr [(3,22)] false [] 0 Proofs.Tryz.f115
def aT:=BA ADR
theorem AID:ADR=some aT:=Ac (by kernel_rfl)
abbrev Qv:=tr [(6,6),(10,15),(17,18)] false [] 0 Proofs.Tryz.f122
def Hq:=BA Qv
theorem Zd:Qv=some Hq:=Ac (by kernel_rfl)
abbrev Oe:=tr [(6,9),(11,11),(15,15),(25,25)] false [(6,Nu 9)] 0 Proofs.Tryz.f123
def F6:=BA Oe
theorem Wp:Oe=some F6:=Ac (by kernel_rfl)
abbrev XJ:=tr [(13,13),(16,32),(52,53),(67,67),(69,74),(100,102),(104,123),(125,127),(129,152),(154,155),(157,162),(179,179),(181,182),(184,189),(198,198),(200,202),(204,225)] false [(8,Nu 20),(10,Nu 14),(14,qO [0,1,2,3,4,5,6,7,8,9,13,10,11,12,14]),(15,qO [0,1,2,4,5,6,3,7,8,9,10]),(27,qO [0,1,3,4,5,2,6,7,8]),(28,qO [0,1,3,4,5,2,6,7,8]),(33,qO [0,1,3,4,5,2,6,7,8])] 0 Proofs.Tryz.f124
def LG:=BA XJ
theorem je:XJ=some LG:=Ac (by kernel_rfl)
abbrev WQ:=tr [(9,12),(17,18),(34,41),(43,51)] false [(5,Nu 15)] 0 Proofs.Tryz.f125
def J5:=BA WQ
theorem iZ:WQ=some J5:=Ac (by kernel_rfl)
abbrev Ya:=tr [(7,7),(9,13),(16,22),(24,32),(34,34),(44,51),(53,53),(64,64),(73,77)] false [(10,qO [0,2,4,5,9,1,3,6,7,8,10]),(14,qO [0,2,3,5,1,4,6,7,8,9]),(16,qO [0,2,3,1,4,5,6,7]),(19,qO [0,1,5,7,2,3,4,6,8,9,10,11])] 0 Proofs.Tryz.f126
def MF:=BA Ya
theorem pU:Ya=some MF:=Ac (by kernel_rfl)
abbrev X8:=tr [(7,7),(9,16),(19,24),(26,34),(36,44),(46,46),(61,74),(76,82)] false [(12,qO [0,1,5,8,2,3,4,6,7,9,10,11,12,13]),(19,qO [0,1,5,8,2,3,4,6,7,9,10,11,12,13])] 0 Proofs.Tryz.f127
def LM:=BA X8
theorem kN:X8=some LM:=Ac (by kernel_rfl)
abbrev qJ:=tr [(7,10)] false [] 0 Proofs.Tryz.f128
def Ub:=BA qJ
theorem ACa:qJ=some Ub:=Ac (by kernel_rfl)
abbrev Xl:=tr [(8,14),(16,20)] false [] 0 Proofs.Tryz.f129
def LD:=BA Xl
theorem jy:Xl=some LD:=Ac (by kernel_rfl)
abbrev qB:=tr [(3,4)] false [] 0 Proofs.Tryz.f130
def Um:=BA qB
theorem ABu:qB=some Um:=Ac (by kernel_rfl)
abbrev Vd:=tr [(10,34),(36,42),(44,45),(47,53),(55,65),(68,74),(76,91)] false [] 0 Proofs.Tryz.f131
def Jg:=BA Vd
theorem eP:Vd=some Jg:=Ac (by kernel_rfl)
abbrev Jw:=tr [(4,8)] false [] 0 Proofs.Tryz.f132
def EW:=BA Jw
theorem RQ:Jw=some EW:=Ac (by kernel_rfl)
abbrev dK:=tr [(5,9)] false [] 0 Proofs.Tryz.f133
def PX:=BA dK
theorem xC:dK=some PX:=Ac (by kernel_rfl)
abbrev JX:=tr [(4,8)] false [] 0 Proofs.Tryz.f134
def EF:=BA JX
theorem QT:JX=some EF:=Ac (by kernel_rfl)
abbrev dO:=tr [(5,9)] false [] 0 Proofs.Tryz.f135
def PN:=BA dO
theorem yP:dO=some PN:=Ac (by kernel_rfl)
abbrev Fj:=tr [(10,13),(19,29),(31,31)] false [] 0 Proofs.Tryz.f136
def CY:=BA Fj
theorem KP:Fj=some CY:=Ac (by kernel_rfl)
abbrev qC:=tr [(5,37)] false [] 0 Proofs.Tryz.f137
def Ut:=BA qC
theorem ACS:qC=some Ut:=Ac (by kernel_rfl)
abbrev yw:=tr [(1,1)] false [] 0 Proofs.Tryz.f141
def Xo:=BA yw
theorem AFk:yw=some Xo:=Ac (by kernel_rfl)
abbrev qI:=tr [(3,5)] false [] 0 Proofs.Tryz.f142
def Ue:=BA qI
theorem ACP:qI=some Ue:=Ac (by kernel_rfl)
abbrev gK:=tr [] false [(1,Nu 12)] 0 Proofs.Tryz.f143
def Qe:=BA gK
theorem zZ:gK=some Qe:=Ac (by kernel_rfl)
abbrev bY:=tr [(8,10),(15,19),(21,24)] false [] 0 Proofs.Tryz.f145
def PE:=BA bY
theorem xY:bY=some PE:=Ac (by kernel_rfl)
abbrev ZN:=tr [(9,9),(11,20)] false [] 0 Proofs.Tryz.f146
def NQ:=BA ZN
theorem rC:ZN=some NQ:=Ac (by kernel_rfl)
abbrev ZV:=tr [(8,12),(14,14),(33,38),(43,45),(53,58),(60,65),(68,68),(82,90),(92,92),(113,114),(120,129),(131,131),(149,149),(155,155)] false [(3,qO [0,1,2,3,4,5,6,7,8,9,10,11,13,14,12,15,16,17]),(9,Nu 8),(16,qO [0,1,2,3,4,5,6,7,8,10,11,9,12]),(19,qO [0,1,2,3,4,5,6,7,8,9,10,11,13,14,15,16,17,12,18]),(22,Nu 5),(26,qO [0,1,2,3,4,5,6,7,8,9,10,11,13,14,12,15]),(28,Nu 5)] 0 Proofs.Tryz.f147
def NZ:=BA ZV
theorem qh:ZV=some NZ:=Ac (by kernel_rfl)
abbrev kZ:=tr [(24,39),(61,61),(73,75)] false [(0,Nu 10),(1,Nu 10),(4,Nu 11),(5,Nu 11),(7,Nu 11)] 0 Proofs.Tryz.f153
def XQ:=BA kZ
theorem ABg:kZ=some XQ:=Ac (by kernel_rfl)
abbrev lW:=tr [(9,13),(24,24),(37,37),(49,52),(54,59),(61,68),(70,70),(72,85),(87,87),(89,92),(94,109)] false [(2,Nu 10),(4,Nu 10),(8,Nu 11)] 0 Proofs.Tryz.f154
def XI:=BA lW
theorem ABa:lW=some XI:=Ac (by kernel_rfl)
abbrev aF:=tr [(10,14),(16,18)] false [] 0 Proofs.Tryz.f155
def UQ:=BA aF
theorem wG:aF=some UQ:=Ac (by kernel_rfl)
abbrev aI:=tr [(5,17),(19,23)] false [] 0 Proofs.Tryz.f156
def UH:=BA aI
theorem wI:aI=some UH:=Ac (by kernel_rfl)
abbrev Zr:=tr [(5,8),(10,11)] false [] 0 Proofs.Tryz.f157
def Tn:=BA Zr
theorem ug:Zr=some Tn:=Ac (by kernel_rfl)
abbrev dW:=tr [(4,6),(8,12)] false [] 0 Proofs.Tryz.f158
def VB:=BA dW
theorem xK:dW=some VB:=Ac (by kernel_rfl)
abbrev aK:=tr [(4,4),(6,7)] false [] 0 Proofs.Tryz.f159
def UE:=BA aK
theorem vH:aK=some UE:=Ac (by kernel_rfl)
abbrev gV:=tr [(11,44),(46,46)] false [] 0 Proofs.Tryz.f160
def WA:=BA gV
theorem zS:gV=some WA:=Ac (by kernel_rfl)
abbrev YQ:=tr [(6,12),(17,34),(36,38),(40,44),(54,62)] false [(2,qO [0,1,4,2,3,5]),(11,qO [0,1,2,4,3,5,6,7,8,9])] 0 Proofs.Tryz.f161
def Qr:=BA YQ
theorem o8:YQ=some Qr:=Ac (by kernel_rfl)
abbrev Zy:=tr [(4,8),(10,21)] false [] 0 Proofs.Tryz.f162
def Td:=BA Zy
theorem uz:Zy=some Td:=Ac (by kernel_rfl)
abbrev VU:=tr [(5,7)] false [] 0 Proofs.Tryz.f174
def Ji:=BA VU
theorem fJ:VU=some Ji:=Ac (by kernel_rfl)
abbrev YS:=tr [(3,13)] false [] 0 Proofs.Tryz.f175
def MI:=BA YS
theorem oH:YS=some MI:=Ac (by kernel_rfl)
abbrev WO:=tr [] false [(1,qO [0,2,3,1,4,5])] 0 Proofs.Tryz.f176
def J4:=BA WO
theorem ig:WO=some J4:=Ac (by kernel_rfl)
abbrev VT:=tr [(5,9)] false [] 0 Proofs.Tryz.f177
def Jh:=BA VT
theorem fA:VT=some Jh:=Ac (by kernel_rfl)
abbrev Pm:=tr [(10,12),(14,29),(31,34),(36,53),(55,62)] false [] 0 Proofs.Tryz.f178
def Gn:=BA Pm
theorem YA:Pm=some Gn:=Ac (by kernel_rfl)
abbrev O5:=tr [(10,12),(14,29),(31,34),(36,53),(55,62)] false [] 0 Proofs.Tryz.f179
def GV:=BA O5
theorem XP:O5=some GV:=Ac (by kernel_rfl)
abbrev fO:=tr [(8,10),(15,30)] false [(3,Nu 4)] 0 Proofs.Tryz.f180
def Qj:=BA fO
theorem AAS:fO=some Qj:=Ac (by kernel_rfl)
abbrev ZE:=tr [(6,10),(12,17)] false [] 0 Proofs.Tryz.f181
def SB:=BA ZE
theorem sH:ZE=some SB:=Ac (by kernel_rfl)
abbrev Om:=tr [(3,3),(5,7)] false [] 0 Proofs.Tryz.f182
def Fq:=BA Om
theorem Wy:Om=some Fq:=Ac (by kernel_rfl)
abbrev ZU:=tr [(7,8),(10,11),(13,14),(16,18),(20,23),(25,27),(29,29),(40,46),(48,48),(58,64),(66,70),(72,72),(85,87),(89,89),(107,111),(113,113),(133,139),(141,141),(155,157)] false [(13,Nu 10),(16,qO [0,1,2,3,4,9,5,6,7,8,10,11]),(24,qO [0,1,2,3,4,5,6,7,9,10,8,11]),(27,Nu 5),(28,qO [0,1,2,3,4,5,6,7,9,10,8,11]),(31,Nu 13),(32,Nu 6),(35,Nu 13)] 0 Proofs.Tryz.f183
def NU:=BA ZU
theorem rZ:ZU=some NU:=Ac (by kernel_rfl)
abbrev YX:=tr [(13,14),(24,24)] false [(4,Nu 9)] 0 Proofs.Tryz.f184
def MB:=BA YX
theorem oz:YX=some MB:=Ac (by kernel_rfl)
abbrev lZ:=tr [(7,15),(26,43)] false [(3,Nu 10)] 0 Proofs.Tryz.f191
def Xa:=BA lZ
theorem ABL:lZ=some Xa:=Ac (by kernel_rfl)
abbrev aH:=tr [(5,7)] false [] 0 Proofs.Tryz.f192
def TY:=BA aH
theorem uH:aH=some TY:=Ac (by kernel_rfl)
abbrev Zz:=tr [(5,7)] false [] 0 Proofs.Tryz.f193
def UR:=BA Zz
theorem wB:Zz=some UR:=Ac (by kernel_rfl)
abbrev AC4:=tr [(3,8)] false [] 0 Proofs.Tryz.f194
def nC:=BA AC4
theorem AHS:AC4=some nC:=Ac (by kernel_rfl)
abbrev qK:=tr [(33,34)] false [(2,Nu 27),(4,Nu 16)] 0 Proofs.Tryz.f195
def Yh:=BA qK
theorem AB8:qK=some Yh:=Ac (by kernel_rfl)
abbrev ACu:=tr [(3,16)] false [] 0 Proofs.Tryz.f196
def nX:=BA ACu
theorem AH1:ACu=some nX:=Ac (by kernel_rfl)
abbrev ADT:=tr [(3,8)] false [] 0 Proofs.Tryz.f197
def nV:=BA ADT
theorem AHv:ADT=some nV:=Ac (by kernel_rfl)
abbrev ADK:=tr [(5,25)] false [] 0 Proofs.Tryz.f198
def oM:=BA ADK
theorem AHA:ADK=some oM:=Ac (by kernel_rfl)
abbrev AC3:=tr [(3,8)] false [] 0 Proofs.Tryz.f199
def oU:=BA AC3
theorem AHW:AC3=some oU:=Ac (by kernel_rfl)
abbrev AA6:=tr [(7,7),(12,20),(22,23)] false [] 0 Proofs.Tryz.f200
def jJ:=BA AA6
theorem AF0:AA6=some jJ:=Ac (by kernel_rfl)
abbrev Zx:=tr [(4,11),(13,21)] false [] 0 Proofs.Tryz.f201
def UA:=BA Zx
theorem vP:Zx=some UA:=Ac (by kernel_rfl)
abbrev aG:=tr [(4,6),(8,13)] false [] 0 Proofs.Tryz.f202
def TS:=BA aG
theorem vN:aG=some TS:=Ac (by kernel_rfl)
abbrev Y6:=tr [(4,14),(16,21)] true [] 250 Proofs.Tryz.f203
def RV:=BA Y6
theorem qy:Y6=some RV:=Ac (by kernel_rfl)
abbrev LC:=tr [(10,13),(15,17),(35,36)] false [(4,Nu 17),(6,Nu 18)] 0 Proofs.Tryz.f214
def Ef:=BA LC
theorem UG:LC=some Ef:=Ac (by kernel_rfl)
abbrev Oa:=tr [(25,27),(29,32),(34,39),(51,57),(59,60),(77,79),(81,84),(86,91),(104,109),(111,112),(129,139),(141,150),(152,157),(172,184),(186,198),(200,212),(214,219)] false [(5,Nu 11),(11,Nu 18),(17,Nu 12),(23,Nu 18),(35,Nu 14)] 0 Proofs.Tryz.f215
def Iq:=BA Oa
theorem Wh:Oa=some Iq:=Ac (by kernel_rfl)
abbrev KJ:=tr [(10,13),(15,17),(35,36)] false [(4,Nu 17),(6,Nu 18)] 0 Proofs.Tryz.f216
def EX:=BA KJ
theorem TI:KJ=some EX:=Ac (by kernel_rfl)
abbrev Nr:=tr [(25,27),(29,32),(34,39),(51,57),(59,60),(77,79),(81,84),(86,91),(104,109),(111,112),(129,139),(141,150),(152,157),(172,184),(186,198),(200,212),(214,219)] false [(5,Nu 11),(11,Nu 18),(17,Nu 12),(23,Nu 18),(35,Nu 14)] 0 Proofs.Tryz.f217
def IX:=BA Nr
theorem Vw:Nr=some IX:=Ac (by kernel_rfl)
abbrev dG:=tr [(8,17)] false [] 0 Proofs.Tryz.f218
def PG:=BA dG
theorem yO:dG=some PG:=Ac (by kernel_rfl)
abbrev ZG:=tr [(7,17),(22,24),(34,40)] false [(5,Nu 10)] 0 Proofs.Tryz.f219
def Na:=BA ZG
theorem rH:ZG=some Na:=Ac (by kernel_rfl)
abbrev XG:=tr [(20,23),(63,66),(83,89),(118,123)] false [(0,Nu 11),(2,Nu 14),(3,qO [0,1,3,4,5,6,7,8,9,2,10,11]),(4,qO [0,1,2,3,4,5,6,8,9,10,11,7,12,13]),(6,qO [0,1,2,3,4,5,6,7,8,9,15,10,11,12,13,14,16,17,18]),(8,Nu 10),(9,qO [0,1,2,3,4,5,6,7,8,9,10,11,12,13,14,20,15,16,17,18,19,21,22,23]),(11,Nu 7),(12,Nu 11)] 0 Proofs.Tryz.f220
def LQ:=BA XG
theorem lY:XG=some LQ:=Ac (by kernel_rfl)
abbrev ZH:=tr [(14,28),(30,33),(35,39),(47,50),(52,70),(78,81),(83,101),(134,144),(146,149),(151,162),(194,197)] false [(5,Nu 7),(8,Nu 7),(12,qO [0,1,8,9,10,11,12,13,14,2,3,4,5,6,7,15]),(13,qO [0,1,2,3,4,5,6,7,8,9,11,12,13,14,10,15]),(18,Nu 18),(19,qO [0,1,2,3,4,5,12,13,14,15,6,7,8,9,10,11,16]),(0,Nu 7)] 0 Proofs.Tryz.f221
def Nh:=BA ZH
theorem qX:ZH=some Nh:=Ac (by kernel_rfl)
abbrev OM:=tr [(5,17)] false [] 0 Proofs.Tryz.f224
def Iy:=BA OM
theorem Wn:OM=some Iy:=Ac (by kernel_rfl)
abbrev OI:=tr [(5,7)] false [] 0 Proofs.Tryz.f225
def I7:=BA OI
theorem W9:OI=some I7:=Ac (by kernel_rfl)
abbrev aB:=tr [(3,13),(15,17)] false [] 0 Proofs.Tryz.f226
def UK:=BA aB
theorem vJ:aB=some UK:=Ac (by kernel_rfl)
abbrev aJ:=tr [(4,13),(15,30),(32,36),(38,48),(50,56),(58,68)] false [] 0 Proofs.Tryz.f227
def Ti:=BA aJ
theorem uY:aJ=some Ti:=Ac (by kernel_rfl)
abbrev Pz:=tr [(12,19),(21,22),(24,57)] false [] 0 Proofs.Tryz.f246
def Je:=BA Pz
theorem YG:Pz=some Je:=Ac (by kernel_rfl)
abbrev O4:=tr [(12,19),(21,22),(24,57)] false [] 0 Proofs.Tryz.f247
def JJ:=BA O4
theorem Xc:O4=some JJ:=Ac (by kernel_rfl)
abbrev Y8:=tr [(10,19),(25,27),(44,44)] false [(5,qO [0,1,2,3,4,5,6,7,8,9,10,11,13,14,12,15])] 0 Proofs.Tryz.f248
def NV:=BA Y8
theorem rU:Y8=some NV:=Ac (by kernel_rfl)
abbrev YM:=tr [(1,7)] false [] 0 Proofs.Tryz.f250
def Lu:=BA YM
theorem nJ:YM=some Lu:=Ac (by kernel_rfl)
abbrev Zu:=tr [(3,7)] true [] 250 Proofs.Tryz.f251
def Tf:=BA Zu
theorem uw:Zu=some Tf:=Ac (by kernel_rfl)
abbrev YV:=tr [(4,24),(26,27),(29,36)] true [] 250 Proofs.Tryz.f252
def QM:=BA YV
theorem ny:YV=some QM:=Ac (by kernel_rfl)
abbrev ZF:=tr [(5,6),(15,17),(19,25),(27,40),(42,46)] false [(1,Nu 10),(8,Nu 16)] 0 Proofs.Tryz.f253
def Ro:=BA ZF
theorem qx:ZF=some Ro:=Ac (by kernel_rfl)
abbrev Nv:=tr [(11,12),(14,15)] false [(3,Nu 24)] 0 Proofs.Tryz.f266
def IW:=BA Nv
theorem V5:Nv=some IW:=Ac (by kernel_rfl)
abbrev NM:=tr [(11,12),(14,15)] false [(3,Nu 24)] 0 Proofs.Tryz.f267
def Hy:=BA NM
theorem Vb:NM=some Hy:=Ac (by kernel_rfl)
abbrev YN:=tr [(11,15),(17,19),(27,27)] false [(4,Nu 8)] 0 Proofs.Tryz.f268
def Qp:=BA YN
theorem mQ:YN=some Qp:=Ac (by kernel_rfl)
abbrev Yc:=tr [(2,5)] false [] 0 Proofs.Tryz.f269
def Qs:=BA Yc
theorem pY:Yc=some Qs:=Ac (by kernel_rfl)
abbrev WY:=tr [(6,10),(12,13),(23,23)] false [(5,Nu 10)] 0 Proofs.Tryz.f270
def O0:=BA WY
theorem iJ:WY=some O0:=Ac (by kernel_rfl)
abbrev Uy:=tr [(2,5)] false [] 0 Proofs.Tryz.f277
def NI:=BA Uy
theorem bD:Uy=some NI:=Ac (by kernel_rfl)
abbrev ZP:=tr [(9,12),(14,15),(25,25)] false [(4,Nu 10)] 0 Proofs.Tryz.f278
def Ru:=BA ZP
theorem rV:ZP=some Ru:=Ac (by kernel_rfl)
abbrev SQ:=tr [(2,6)] false [] 0 Proofs.Tryz.f279
def LX:=BA SQ
theorem Zi:SQ=some LX:=Ac (by kernel_rfl)
abbrev ZQ:=tr [(9,15),(20,25),(27,30),(42,46),(48,51),(62,62)] true [(8,Nu 15),(16,qO [0,1,2,3,6,7,4,5,8,9])] 250 Proofs.Tryz.f280
def RN:=BA ZQ
theorem qc:ZQ=some RN:=Ac (by kernel_rfl)
abbrev ZK:=tr [(5,14),(16,17),(24,26),(28,33)] false [(5,Nu 7)] 0 Proofs.Tryz.f281
def Rx:=BA ZK
theorem rO:ZK=some Rx:=Ac (by kernel_rfl)
abbrev Z8:=tr [(5,15),(17,20),(22,26),(32,36),(42,59),(61,63),(65,67),(69,71),(73,75),(77,83),(85,95),(97,98),(100,107)] false [(8,Nu 6),(11,Nu 6)] 0 Proofs.Tryz.f282
def UU:=BA Z8
theorem vK:Z8=some UU:=Ac (by kernel_rfl)
abbrev Yb:=tr [(8,8),(10,18),(20,24)] false [(6,Nu 9)] 0 Proofs.Tryz.f283
def QJ:=BA Yb
theorem pG:Yb=some QJ:=Ac (by kernel_rfl)
abbrev Z5:=tr [(4,12),(14,15),(17,29)] false [] 0 Proofs.Tryz.f284
def UN:=BA Z5
theorem uP:Z5=some UN:=Ac (by kernel_rfl)
def F:T AF:=(.n none (.n none (.n none (.n none (.n none (.n none (.n none (.n (some LM) .e .e) (.n (some Xa) .e .e)) (.n none (.n (some UE) .e .e) .e)) (.n (some Bz) (.n (some PI) (.n (some Qe) .e .e) .e) (.n none (.n (some MI) .e .e) .e))) (.n none (.n (some Zp) (.n (some QL) (.n (some PN) .e .e) (.n (some oU) .e .e)) .e) (.n none (.n (some CX) (.n none (.n (some LX) .e .e) .e) (.n (some Iq) .e .e)) (.n none (.n (some NU) .e .e) (.n (some JJ) .e .e))))) (.n none (.n (some NT) (.n none (.n (some PL) (.n (some Jg) .e .e) (.n (some Yh) .e .e)) (.n (some Vx) .e (.n (some Ti) .e .e))) (.n (some QG) (.n (some LP) (.n (some NZ) .e .e) .e) (.n (some aT) (.n (some GV) .e .e) .e))) (.n none (.n (some fM) (.n none (.n none (.n (some Hy) .e .e) .e) (.n (some RV) .e .e)) .e) (.n (some Oc) (.n (some CW) (.n (some UQ) (.n (some QJ) .e .e) .e) (.n (some Na) .e .e)) (.n (some F6) .e (.n (some Tf) .e .e)))))) (.n (some MP) (.n none (.n (some SX) (.n none (.n none (.n (some LD) .e .e) (.n (some UR) .e .e)) (.n (some zD) (.n (some Qr) .e .e) (.n (some I7) .e .e))) (.n none (.n none (.n (some PE) .e .e) .e) (.n none (.n (some Jh) .e .e) .e))) (.n none (.n (some SI) (.n none (.n (some Ut) .e .e) (.n (some UA) .e .e)) .e) (.n none (.n none (.n (some XQ) (.n (some Rx) .e .e) .e) (.n (some IX) .e .e)) .e))) (.n (some Xk) (.n none (.n (some PS) (.n none (.n (some PX) .e .e) (.n (some nV) .e .e)) .e) (.n (some Eu) (.n (some gU) (.n none (.n (some NI) .e .e) .e) .e) (.n none (.n (some SB) .e .e) .e))) (.n none (.n (some oP) (.n (some Gf) (.n (some Xo) (.n (some Qs) .e .e) .e) .e) .e) (.n none (.n (some MO) (.n (some Tn) .e .e) (.n (some Nh) .e .e)) (.n (some J5) .e (.n (some Ro) .e .e))))))) (.n none (.n none (.n none (.n (some Qk) (.n none (.n none (.n (some Ub) .e .e) (.n (some TY) .e .e)) (.n none (.n (some WA) .e .e) (.n (some Iy) .e .e))) (.n (some QN) (.n (some Ul) .e .e) (.n none (.n (some J4) .e .e) .e))) (.n none (.n (some wM) (.n none (.n (some CY) .e .e) (.n (some jJ) .e .e)) .e) (.n none (.n (some Ur) (.n none (.n (some RN) .e .e) .e) (.n (some EX) .e .e)) (.n none (.n (some MB) .e .e) (.n (some NV) .e .e))))) (.n none (.n (some X3) (.n (some gy) (.n (some PY) (.n (some EW) .e .e) (.n (some nX) .e .e)) (.n (some PU) .e .e)) (.n (some Sv) (.n (some Gi) .e .e) (.n none (.n (some Qj) .e .e) .e))) (.n none (.n (some LJ) (.n none (.n none (.n (some Qp) .e .e) .e) .e) (.n (some QX) .e .e)) (.n none (.n (some OU) (.n (some UH) (.n (some UN) .e .e) .e) (.n (some LQ) .e .e)) (.n (some LG) .e (.n (some QM) .e .e)))))) (.n none (.n none (.n none (.n none (.n none (.n (some Um) .e .e) (.n (some nC) .e .e)) (.n (some SC) (.n (some Td) .e .e) (.n (some UK) .e .e))) (.n (some NR) (.n (some Jz) (.n (some NQ) .e .e) .e) (.n (some SK) (.n (some Gn) .e .e) .e))) (.n none (.n (some Jj) (.n none (.n none (.n (some IW) .e .e) .e) (.n (some TS) .e .e)) .e) (.n (some dR) (.n (some Un) (.n (some XI) (.n (some UU) .e .e) .e) (.n (some PG) .e .e)) (.n (some Hq) .e (.n (some Lu) .e .e))))) (.n (some OV) (.n none (.n none (.n none (.n (some EF) .e .e) (.n (some oM) .e .e)) .e) (.n (some Kt) (.n (some Sm) (.n none (.n (some Ru) .e .e) .e) (.n (some Ef) .e .e)) (.n none (.n (some Fq) .e .e) (.n (some Je) .e .e)))) (.n (some nZ) (.n (some Gm) (.n (some Yx) (.n (some Ue) (.n (some O0) .e .e) .e) .e) (.n (some F5) (.n (some Ji) .e .e) .e)) (.n none (.n none (.n (some VB) .e .e) .e) (.n (some MF) .e .e)))))))
theorem Qd:T.get F 5=some MP:=by kernel_rfl
theorem UL:T.get F 14=some OV:=by kernel_rfl
theorem WB:T.get F 16=some Qk:=by kernel_rfl
theorem Xi:T.get F 17=some SX:=by kernel_rfl
theorem RP:T.get F 19=some NT:=by kernel_rfl
theorem dN:T.get F 20=some X3:=by kernel_rfl
theorem zx:T.get F 30=some nZ:=by kernel_rfl
theorem tV:T.get F 36=some gy:=by kernel_rfl
theorem U7:T.get F 37=some PS:=by kernel_rfl
theorem ACT:T.get F 40=some wM:=by kernel_rfl
theorem Xh:T.get F 41=some SI:=by kernel_rfl
theorem Nw:T.get F 42=some Jj:=by kernel_rfl
theorem uD:T.get F 43=some fM:=by kernel_rfl
theorem PZ:T.get F 44=some LJ:=by kernel_rfl
theorem AAO:T.get F 45=some oP:=by kernel_rfl
theorem Ey:T.get F 46=some Gm:=by kernel_rfl
theorem DR:T.get F 47=some Bz:=by kernel_rfl
theorem V4:T.get F 48=some QN:=by kernel_rfl
theorem RY:T.get F 50=some NR:=by kernel_rfl
theorem Vu:T.get F 51=some QG:=by kernel_rfl
theorem Xm:T.get F 52=some Sv:=by kernel_rfl
theorem Gy:T.get F 53=some Eu:=by kernel_rfl
theorem Py:T.get F 54=some Kt:=by kernel_rfl
theorem KN:T.get F 59=some Oc:=by kernel_rfl
theorem U5:T.get F 67=some PL:=by kernel_rfl
theorem VF:T.get F 68=some PY:=by kernel_rfl
theorem WH:T.get F 71=some QL:=by kernel_rfl
theorem JE:T.get F 77=some Gf:=by kernel_rfl
theorem iO:T.get F 78=some Yx:=by kernel_rfl
theorem U8:T.get F 79=some PI:=by kernel_rfl
theorem Yn:T.get F 80=some Ul:=by kernel_rfl
theorem Ov:T.get F 82=some Jz:=by kernel_rfl
theorem Ph:T.get F 83=some LP:=by kernel_rfl
theorem JZ:T.get F 84=some Gi:=by kernel_rfl
theorem wF:T.get F 85=some gU:=by kernel_rfl
theorem Xr:T.get F 86=some Sm:=by kernel_rfl
theorem Dy:T.get F 87=some CX:=by kernel_rfl
theorem Ye:T.get F 88=some Ur:=by kernel_rfl
theorem Yg:T.get F 90=some Un:=by kernel_rfl
theorem Dz:T.get F 91=some CW:=by kernel_rfl
theorem TT:T.get F 92=some OU:=by kernel_rfl
theorem Qm:T.get F 93=some MO:=by kernel_rfl
theorem VH:T.get F 100=some PU:=by kernel_rfl
theorem Vs:T.get F 108=some QX:=by kernel_rfl
theorem Iu:T.get F 110=some F5:=by kernel_rfl
theorem XO:T.get F 114=some SK:=by kernel_rfl
theorem oC:T.get F 115=some aT:=by kernel_rfl
theorem KI:T.get F 122=some Hq:=by kernel_rfl
theorem Ir:T.get F 123=some F6:=by kernel_rfl
theorem QC:T.get F 124=some LG:=by kernel_rfl
theorem Oq:T.get F 125=some J5:=by kernel_rfl
theorem JH:T.get F 126=some MF:=by kernel_rfl
theorem Ig:T.get F 127=some LM:=by kernel_rfl
theorem Yo:T.get F 128=some Ub:=by kernel_rfl
theorem Pq:T.get F 129=some LD:=by kernel_rfl
theorem Yv:T.get F 130=some Um:=by kernel_rfl
theorem OB:T.get F 131=some Jg:=by kernel_rfl
theorem GI:T.get F 132=some EW:=by kernel_rfl
theorem VD:T.get F 133=some PX:=by kernel_rfl
theorem FV:T.get F 134=some EF:=by kernel_rfl
theorem VG:T.get F 135=some PN:=by kernel_rfl
theorem Dw:T.get F 136=some CY:=by kernel_rfl
theorem Yf:T.get F 137=some Ut:=by kernel_rfl
theorem dJ:T.get F 141=some Xo:=by kernel_rfl
theorem Yi:T.get F 142=some Ue:=by kernel_rfl
theorem WG:T.get F 143=some Qe:=by kernel_rfl
theorem U4:T.get F 145=some PE:=by kernel_rfl
theorem Rk:T.get F 146=some NQ:=by kernel_rfl
theorem Rz:T.get F 147=some NZ:=by kernel_rfl
theorem N8:T.get F 174=some Ji:=by kernel_rfl
theorem Qq:T.get F 175=some MI:=by kernel_rfl
theorem O1:T.get F 176=some J4:=by kernel_rfl
theorem Nz:T.get F 177=some Jh:=by kernel_rfl
theorem Ja:T.get F 178=some Gn:=by kernel_rfl
theorem JB:T.get F 179=some GV:=by kernel_rfl
theorem V8:T.get F 180=some Qj:=by kernel_rfl
theorem I4:T.get F 182=some Fq:=by kernel_rfl
theorem SG:T.get F 183=some NU:=by kernel_rfl
theorem QY:T.get F 184=some MB:=by kernel_rfl
theorem Gt:T.get F 214=some Ef:=by kernel_rfl
theorem Gg:T.get F 216=some EX:=by kernel_rfl
theorem U6:T.get F 218=some PG:=by kernel_rfl
theorem RX:T.get F 219=some Na:=by kernel_rfl
theorem QA:T.get F 220=some LQ:=by kernel_rfl
theorem Df:T.get F 221=some Nh:=by kernel_rfl
theorem Rl:T.get F 248=some NV:=by kernel_rfl
theorem MH:T.get F 250=some Lu:=by kernel_rfl
abbrev Gu(n:Nat)(a:AF):Prop:=zT Go.Proofs.Tryz.prog F n a
theorem ok1{n:Nat}{a:AF}{fn:Func}{loc:Nat->Bool}{df:Bool}{ords:AJq}{dg:Nat}(hf:Go.Proofs.Tryz.prog.funcs[n]? =some fn)(ht:trF Go.Proofs.Tryz.prog loc df ords dg fn=some a)(hn:(fn.name== "runtime.NumGoroutine")=false:=by kernel_rfl)(hd:a.dg=dg:=by kernel_rfl)(hi:ALb a.dp=true:=by kernel_rfl):Gu n a:=.one hf hn ht hd hi
theorem jL:Gu 5 MP:=ok1 Proofs.Tryz.func5 ou
theorem yM:Gu 13 Xk:=ok1 Proofs.Tryz.func13 AA7
theorem oG:Gu 14 OV:=ok1 Proofs.Tryz.func14 vX
theorem uj:Gu 16 Qk:=ok1 Proofs.Tryz.func16 zu
theorem yB:Gu 17 SX:=ok1 Proofs.Tryz.func17 AAm
theorem kW:Gu 19 NT:=ok1 Proofs.Tryz.func19 rE
theorem ACb:Gu 20 X3:=ok1 Proofs.Tryz.func20 AFe
theorem AHq:Gu 30 nZ:=ok1 Proofs.Tryz.func30 ALQ
theorem AF1:Gu 36 gy:=ok1 Proofs.Tryz.func36 AIv
theorem qY:Gu 37 PS:=ok1 Proofs.Tryz.func37 yG
theorem AAh:Gu 39 Zp:=ok1 Proofs.Tryz.func39 ADZ
theorem AJv:Gu 40 wM:=ok1 Proofs.Tryz.func40 ANp
theorem yL:Gu 41 SI:=ok1 Proofs.Tryz.func41 AAn
theorem aZ:Gu 42 Jj:=ok1 Proofs.Tryz.func42 dw
theorem AFz:Gu 43 fM:=ok1 Proofs.Tryz.func43 AKL
theorem fE:Gu 44 LJ:=ok1 Proofs.Tryz.func44 kD
theorem AHe:Gu 45 oP:=ok1 Proofs.Tryz.func45 ALn
theorem Wq:Gu 46 Gm:=ok1 Proofs.Tryz.func46 YJ
theorem Ik:Gu 47 Bz:=ok1 Proofs.Tryz.func47 JA
theorem vT:Gu 48 QN:=ok1 Proofs.Tryz.func48 zU
theorem lF:Gu 50 NR:=ok1 Proofs.Tryz.func50 rQ
theorem tZ:Gu 51 QG:=ok1 Proofs.Tryz.func51 zo
theorem yH:Gu 52 Sv:=ok1 Proofs.Tryz.func52 ABJ
theorem TK:Gu 53 Eu:=ok1 Proofs.Tryz.func53 Uf
theorem dh:Gu 54 Kt:=ok1 Proofs.Tryz.func54 kJ
theorem ACA:Gu 58 dR:=ok1 Proofs.Tryz.func58 AEI
theorem oK:Gu 59 Oc:=ok1 Proofs.Tryz.func59 uO
theorem rW:Gu 67 PL:=ok1 Proofs.Tryz.func67 xE
theorem sK:Gu 68 PY:=ok1 Proofs.Tryz.func68 xg
theorem tK:Gu 71 QL:=ok1 Proofs.Tryz.func71 y8
theorem Vy:Gu 77 Gf:=ok1 Proofs.Tryz.func77 XH
theorem ADc:Gu 78 Yx:=ok1 Proofs.Tryz.func78 AFr
theorem qU:Gu 79 PI:=ok1 Proofs.Tryz.func79 xU
theorem AAX:Gu 80 Ul:=ok1 Proofs.Tryz.func80 ABp
theorem bK:Gu 82 Jz:=ok1 Proofs.Tryz.func82 jX
theorem fH:Gu 83 LP:=ok1 Proofs.Tryz.func83 jv
theorem XB:Gu 84 Gi:=ok1 Proofs.Tryz.func84 X9
theorem AFt:Gu 85 gU:=ok1 Proofs.Tryz.func85 AKH
theorem xH:Gu 86 Sm:=ok1 Proofs.Tryz.func86 AAp
theorem KG:Gu 87 CX:=ok1 Proofs.Tryz.func87 KQ
theorem AAQ:Gu 88 Ur:=ok1 Proofs.Tryz.func88 ACe
theorem AAI:Gu 90 Un:=ok1 Proofs.Tryz.func90 ACX
theorem KC:Gu 91 CW:=ok1 Proofs.Tryz.func91 KW
theorem pO:Gu 92 OU:=ok1 Proofs.Tryz.func92 uV
theorem iW:Gu 93 MO:=ok1 Proofs.Tryz.func93 oJ
theorem AHl:Gu 97 zD:=ok1 Proofs.Tryz.func97 ALN
theorem lC:Gu 98 SC:=ok1 Proofs.Tryz.func98 ql
theorem uJ:Gu 99 Vx:=ok1 Proofs.Tryz.func99 AAY
theorem qm:Gu 100 PU:=ok1 Proofs.Tryz.func100 xI
theorem vF:Gu 108 QX:=ok1 Proofs.Tryz.func108 zf
theorem Ve:Gu 110 F5:=ok1 Proofs.Tryz.func110 Wx
theorem yD:Gu 114 SK:=ok1 Proofs.Tryz.func114 ABj
theorem AEO:Gu 115 aT:=ok1 Proofs.Tryz.func115 AID
theorem YI:Gu 122 Hq:=ok1 Proofs.Tryz.func122 Zd
theorem VX:Gu 123 F6:=ok1 Proofs.Tryz.func123 Wp
theorem fC:Gu 124 LG:=ok1 Proofs.Tryz.func124 je
theorem bF:Gu 125 J5:=ok1 Proofs.Tryz.func125 iZ
theorem jB:Gu 126 MF:=ok1 Proofs.Tryz.func126 pU
theorem eu:Gu 127 LM:=ok1 Proofs.Tryz.func127 kN
theorem AAR:Gu 128 Ub:=ok1 Proofs.Tryz.func128 ACa
theorem eX:Gu 129 LD:=ok1 Proofs.Tryz.func129 jy
theorem y7:Gu 130 Um:=ok1 Proofs.Tryz.func130 ABu
theorem aQ:Gu 131 Jg:=ok1 Proofs.Tryz.func131 eP
theorem Qa:Gu 132 EW:=ok1 Proofs.Tryz.func132 RQ
theorem sJ:Gu 133 PX:=ok1 Proofs.Tryz.func133 xC
theorem Po:Gu 134 EF:=ok1 Proofs.Tryz.func134 QT
theorem qZ:Gu 135 PN:=ok1 Proofs.Tryz.func135 yP
theorem J8:Gu 136 CY:=ok1 Proofs.Tryz.func136 KP
theorem AAG:Gu 137 Ut:=ok1 Proofs.Tryz.func137 ACS
theorem ACc:Gu 141 Xo:=ok1 Proofs.Tryz.func141 AFk
theorem zA:Gu 142 Ue:=ok1 Proofs.Tryz.func142 ACP
theorem vk:Gu 143 Qe:=ok1 Proofs.Tryz.func143 zZ
theorem sF:Gu 145 PE:=ok1 Proofs.Tryz.func145 xY
theorem kX:Gu 146 NQ:=ok1 Proofs.Tryz.func146 rC
theorem kG:Gu 147 NZ:=ok1 Proofs.Tryz.func147 qh
theorem xu:Gu 153 XQ:=ok1 Proofs.Tryz.func153 ABg
theorem xq:Gu 154 XI:=ok1 Proofs.Tryz.func154 ABa
theorem pK:Gu 155 UQ:=ok1 Proofs.Tryz.func155 wG
theorem nU:Gu 156 UH:=ok1 Proofs.Tryz.func156 wI
theorem o7:Gu 157 Tn:=ok1 Proofs.Tryz.func157 ug
theorem rM:Gu 158 VB:=ok1 Proofs.Tryz.func158 xK
theorem oL:Gu 159 UE:=ok1 Proofs.Tryz.func159 vH
theorem uF:Gu 160 WA:=ok1 Proofs.Tryz.func160 zS
theorem iy:Gu 161 Qr:=ok1 Proofs.Tryz.func161 o8
theorem oq:Gu 162 Td:=ok1 Proofs.Tryz.func162 uz
theorem aP:Gu 174 Ji:=ok1 Proofs.Tryz.func174 fJ
theorem jD:Gu 175 MI:=ok1 Proofs.Tryz.func175 oH
theorem dU:Gu 176 J4:=ok1 Proofs.Tryz.func176 ig
theorem aX:Gu 177 Jh:=ok1 Proofs.Tryz.func177 fA
theorem Ws:Gu 178 Gn:=ok1 Proofs.Tryz.func178 YA
theorem V3:Gu 179 GV:=ok1 Proofs.Tryz.func179 XP
theorem wJ:Gu 180 Qj:=ok1 Proofs.Tryz.func180 AAS
theorem lK:Gu 181 SB:=ok1 Proofs.Tryz.func181 sH
theorem VR:Gu 182 Fq:=ok1 Proofs.Tryz.func182 Wy
theorem kH:Gu 183 NU:=ok1 Proofs.Tryz.func183 rZ
theorem iq:Gu 184 MB:=ok1 Proofs.Tryz.func184 oz
theorem xR:Gu 191 Xa:=ok1 Proofs.Tryz.func191 ABL
theorem nG:Gu 192 TY:=ok1 Proofs.Tryz.func192 uH
theorem pX:Gu 193 UR:=ok1 Proofs.Tryz.func193 wB
theorem AEK:Gu 194 nC:=ok1 Proofs.Tryz.func194 AHS
theorem AAa:Gu 195 Yh:=ok1 Proofs.Tryz.func195 AB8
theorem AED:Gu 196 nX:=ok1 Proofs.Tryz.func196 AH1
theorem AE8:Gu 197 nV:=ok1 Proofs.Tryz.func197 AHv
theorem AEm:Gu 198 oM:=ok1 Proofs.Tryz.func198 AHA
theorem AFj:Gu 199 oU:=ok1 Proofs.Tryz.func199 AHW
theorem ADh:Gu 200 jJ:=ok1 Proofs.Tryz.func200 AF0
theorem nK:Gu 201 UA:=ok1 Proofs.Tryz.func201 vP
theorem pR:Gu 202 TS:=ok1 Proofs.Tryz.func202 vN
theorem lg:Gu 203 RV:=.two Proofs.Tryz.func203 (by kernel_rfl) qy (by kernel_rfl) MH (by kernel_rfl)
theorem SA:Gu 214 Ef:=ok1 Proofs.Tryz.func214 UG
theorem VK:Gu 215 Iq:=ok1 Proofs.Tryz.func215 Wh
theorem Q8:Gu 216 EX:=ok1 Proofs.Tryz.func216 TI
theorem VA:Gu 217 IX:=ok1 Proofs.Tryz.func217 Vw
theorem sD:Gu 218 PG:=ok1 Proofs.Tryz.func218 yO
theorem kM:Gu 219 Na:=ok1 Proofs.Tryz.func219 rH
theorem dn:Gu 220 LQ:=ok1 Proofs.Tryz.func220 lY
theorem kV:Gu 221 Nh:=ok1 Proofs.Tryz.func221 qX
theorem VL:Gu 224 Iy:=ok1 Proofs.Tryz.func224 Wn
theorem VQ:Gu 225 I7:=ok1 Proofs.Tryz.func225 W9
theorem pF:Gu 226 UK:=ok1 Proofs.Tryz.func226 vJ
theorem nM:Gu 227 Ti:=ok1 Proofs.Tryz.func227 uY
theorem Wu:Gu 246 Je:=ok1 Proofs.Tryz.func246 YG
theorem V7:Gu 247 JJ:=ok1 Proofs.Tryz.func247 Xc
theorem mD:Gu 248 NV:=ok1 Proofs.Tryz.func248 rU
theorem iM:Gu 250 Lu:=ok1 Proofs.Tryz.func250 nJ
theorem nD:Gu 251 Tf:=.two Proofs.Tryz.func251 (by kernel_rfl) uw (by kernel_rfl) MH (by kernel_rfl)
theorem iV:Gu 252 QM:=.two Proofs.Tryz.func252 (by kernel_rfl) ny (by kernel_rfl) MH (by kernel_rfl)
theorem lG:Gu 253 Ro:=ok1 Proofs.Tryz.func253 qx
theorem VI:Gu 266 IW:=ok1 Proofs.Tryz.func266 V5
theorem Uu:Gu 267 Hy:=ok1 Proofs.Tryz.func267 Vb
theorem iQ:Gu 268 Qp:=ok1 Proofs.Tryz.func268 mQ
theorem jH:Gu 269 Qs:=ok1 Proofs.Tryz.func269 pY
theorem dH:Gu 270 O0:=ok1 Proofs.Tryz.func270 iJ
theorem Zh:Gu 277 NI:=ok1 Proofs.Tryz.func277 bD
theorem lS:Gu 278 Ru:=ok1 Proofs.Tryz.func278 rV
theorem Yd:Gu 279 LX:=ok1 Proofs.Tryz.func279 Zi
theorem jf:Gu 280 RN:=.two Proofs.Tryz.func280 (by kernel_rfl) qc (by kernel_rfl) MH (by kernel_rfl)
theorem kU:Gu 281 Rx:=ok1 Proofs.Tryz.func281 rO
theorem nN:Gu 282 UU:=ok1 Proofs.Tryz.func282 vK
theorem jE:Gu 283 QJ:=ok1 Proofs.Tryz.func283 pG
theorem pW:Gu 284 UN:=ok1 Proofs.Tryz.func284 uP
theorem all_good:T.All (λp af=>zT Go.Proofs.Tryz.prog F p.key af) F:=(.n0 (.n0 (.n0 (.n0 (.n0 (.n0 (.n0 (.n1 eu .e .e) (.n1 xR .e .e)) (.n0 (.n1 oL .e .e) .e)) (.n1 Ik (.n1 qU (.n1 vk .e .e) .e) (.n0 (.n1 jD .e .e) .e))) (.n0 (.n1 AAh (.n1 tK (.n1 qZ .e .e) (.n1 AFj .e .e)) .e) (.n0 (.n1 KG (.n0 (.n1 Yd .e .e) .e) (.n1 VK .e .e)) (.n0 (.n1 kH .e .e) (.n1 V7 .e .e))))) (.n0 (.n1 kW (.n0 (.n1 rW (.n1 aQ .e .e) (.n1 AAa .e .e)) (.n1 uJ .e (.n1 nM .e .e))) (.n1 tZ (.n1 fH (.n1 kG .e .e) .e) (.n1 AEO (.n1 V3 .e .e) .e))) (.n0 (.n1 AFz (.n0 (.n0 (.n1 Uu .e .e) .e) (.n1 lg .e .e)) .e) (.n1 oK (.n1 KC (.n1 pK (.n1 jE .e .e) .e) (.n1 kM .e .e)) (.n1 VX .e (.n1 nD .e .e)))))) (.n1 jL (.n0 (.n1 yB (.n0 (.n0 (.n1 eX .e .e) (.n1 pX .e .e)) (.n1 AHl (.n1 iy .e .e) (.n1 VQ .e .e))) (.n0 (.n0 (.n1 sF .e .e) .e) (.n0 (.n1 aX .e .e) .e))) (.n0 (.n1 yL (.n0 (.n1 AAG .e .e) (.n1 nK .e .e)) .e) (.n0 (.n0 (.n1 xu (.n1 kU .e .e) .e) (.n1 VA .e .e)) .e))) (.n1 yM (.n0 (.n1 qY (.n0 (.n1 sJ .e .e) (.n1 AE8 .e .e)) .e) (.n1 TK (.n1 AFt (.n0 (.n1 Zh .e .e) .e) .e) (.n0 (.n1 lK .e .e) .e))) (.n0 (.n1 AHe (.n1 Vy (.n1 ACc (.n1 jH .e .e) .e) .e) .e) (.n0 (.n1 iW (.n1 o7 .e .e) (.n1 kV .e .e)) (.n1 bF .e (.n1 lG .e .e))))))) (.n0 (.n0 (.n0 (.n1 uj (.n0 (.n0 (.n1 AAR .e .e) (.n1 nG .e .e)) (.n0 (.n1 uF .e .e) (.n1 VL .e .e))) (.n1 vT (.n1 AAX .e .e) (.n0 (.n1 dU .e .e) .e))) (.n0 (.n1 AJv (.n0 (.n1 J8 .e .e) (.n1 ADh .e .e)) .e) (.n0 (.n1 AAQ (.n0 (.n1 jf .e .e) .e) (.n1 Q8 .e .e)) (.n0 (.n1 iq .e .e) (.n1 mD .e .e))))) (.n0 (.n1 ACb (.n1 AF1 (.n1 sK (.n1 Qa .e .e) (.n1 AED .e .e)) (.n1 qm .e .e)) (.n1 yH (.n1 XB .e .e) (.n0 (.n1 wJ .e .e) .e))) (.n0 (.n1 fE (.n0 (.n0 (.n1 iQ .e .e) .e) .e) (.n1 vF .e .e)) (.n0 (.n1 pO (.n1 nU (.n1 pW .e .e) .e) (.n1 dn .e .e)) (.n1 fC .e (.n1 iV .e .e)))))) (.n0 (.n0 (.n0 (.n0 (.n0 (.n1 y7 .e .e) (.n1 AEK .e .e)) (.n1 lC (.n1 oq .e .e) (.n1 pF .e .e))) (.n1 lF (.n1 bK (.n1 kX .e .e) .e) (.n1 yD (.n1 Ws .e .e) .e))) (.n0 (.n1 aZ (.n0 (.n0 (.n1 VI .e .e) .e) (.n1 pR .e .e)) .e) (.n1 ACA (.n1 AAI (.n1 xq (.n1 nN .e .e) .e) (.n1 sD .e .e)) (.n1 YI .e (.n1 iM .e .e))))) (.n1 oG (.n0 (.n0 (.n0 (.n1 Po .e .e) (.n1 AEm .e .e)) .e) (.n1 dh (.n1 xH (.n0 (.n1 lS .e .e) .e) (.n1 SA .e .e)) (.n0 (.n1 VR .e .e) (.n1 Wu .e .e)))) (.n1 AHq (.n1 Wq (.n1 ADc (.n1 zA (.n1 dH .e .e) .e) .e) (.n1 Ve (.n1 aP .e .e) .e)) (.n0 (.n0 (.n1 rM .e .e) .e) (.n1 jB .e .e)))))))
theorem AV8:AGS Go.Proofs.Tryz.prog F:=.AVN (by kernel_rfl) all_good
end Go.RL
