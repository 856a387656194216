/- Part of a proof; nothing is assumed. -/
import Derived.Test.YtmbhlmocojopaaaGreatDoorEngA
import Derived.Test.YtmbhlmocojopaaaGreatDoorEngF
import Derived.Test.YtmbhlmocojopaaaGreatDoorProg
set_option linter.unusedVariables false
set_option linter.unusedSimpArgs false
noncomputable section
namespace Go.RL
open Go.DW
set_option maxRecDepth 100000
abbrev tr(l:List (Nat×Nat))(d:Bool)(o:AJl)(g:Nat)(f:Func):Option AF:=trF Go.Proofs.Tryz.prog (inR l) d o g f
abbrev YM:=tr [(14,14),(16,32),(34,42),(47,73),(75,75)] false [] 0 Proofs.Tryz.f5
def MK:=BA YM
theorem oD:YM=some MK:=Ac (by kernel_rfl)
abbrev kP:=tr [(9,14),(25,30)] false [(4,qA [0,2,3,4,9,10,1,5,6,7,8,11,12]),(8,qA [0,2,3,4,9,10,1,5,6,7,8,11,12]),(9,Nr 25)] 0 Proofs.Tryz.f13
def XF:=BA kP
theorem ABk:kP=some XF:=Ac (by kernel_rfl)
abbrev aJ:=tr [(6,16),(46,51),(63,64),(88,90)] false [(3,Nr 11),(4,Nr 9),(5,Nr 12),(8,Nr 11),(10,Nr 12),(11,Nr 12)] 0 Proofs.Tryz.f14
def OJ:=BA aJ
theorem vZ:aJ=some OJ:=Ac (by kernel_rfl)
abbrev gq:=tr [(6,6),(11,20)] false [] 0 Proofs.Tryz.f16
def Qk:=BA gq
theorem AAJ:gq=some Qk:=Ac (by kernel_rfl)
abbrev lY:=tr [(5,30)] false [] 0 Proofs.Tryz.f17
def Si:=BA lY
theorem ABA:lY=some Si:=Ac (by kernel_rfl)
abbrev ZX:=tr [(5,23),(25,25),(30,46),(48,48)] false [] 0 Proofs.Tryz.f19
def NW:=BA ZX
theorem sN:ZX=some NW:=Ac (by kernel_rfl)
abbrev yh:=tr [(12,18),(32,36),(43,51),(56,58),(66,71),(78,79)] false [(2,Nr 9),(3,Nr 6),(6,Nr 7),(12,Nr 8),(15,Nr 7)] 0 Proofs.Tryz.f20
def Xw:=BA yh
theorem AE4:yh=some Xw:=Ac (by kernel_rfl)
abbrev AGZ:=tr [(1,1)] false [] 0 Proofs.Tryz.f30
def og:=BA AGZ
theorem ALK:AGZ=some og:=Ac (by kernel_rfl)
abbrev AER:=tr [(6,9),(14,15),(23,24)] false [(5,Nr 8)] 0 Proofs.Tryz.f36
def fU:=BA AER
theorem AIm:AER=some fU:=Ac (by kernel_rfl)
abbrev bf:=tr [(10,10),(13,14),(18,18),(21,31),(33,49),(51,59),(61,62),(64,66),(71,77),(79,88),(90,91),(96,105),(107,127),(129,129)] false [] 0 Proofs.Tryz.f37
def PK:=BA bf
theorem xu:bf=some PK:=Ac (by kernel_rfl)
abbrev uo:=tr [(9,9),(14,22),(24,29)] false [] 0 Proofs.Tryz.f39
def Zp:=BA uo
theorem ADg:uo=some Zp:=Ac (by kernel_rfl)
abbrev AIc:=tr [(3,4)] false [] 0 Proofs.Tryz.f40
def wV:=BA AIc
theorem ANd:AIc=some wV:=Ac (by kernel_rfl)
abbrev kN:=tr [(1,1)] false [] 0 Proofs.Tryz.f41
def SX:=BA kN
theorem ABM:kN=some SX:=Ac (by kernel_rfl)
abbrev VR:=tr [(17,24),(26,31),(36,52),(63,63),(78,81)] false [(11,Nr 11),(13,qA [0,1,4,6,7,2,3,5,8,9,10,11,12,13,14])] 0 Proofs.Tryz.f42
def Jh:=BA VR
theorem eH:VR=some Jh:=Ac (by kernel_rfl)
abbrev AFN:=tr [(1,1)] false [] 0 Proofs.Tryz.f43
def gU:=BA AFN
theorem AJV:AFN=some gU:=Ac (by kernel_rfl)
abbrev Xt:=tr [(6,10),(39,52)] false [(3,Nr 28)] 0 Proofs.Tryz.f44
def LD:=BA Xt
theorem kX:Xt=some LD:=Ac (by kernel_rfl)
abbrev AGY:=tr [(14,14),(19,20),(28,30)] false [(1,qA [0,1,2,3,4,5,8,6,7,9]),(5,Nr 8)] 0 Proofs.Tryz.f45
def nV:=BA AGY
theorem AKU:AGY=some nV:=Ac (by kernel_rfl)
abbrev Pj:=tr [(6,9),(11,11),(15,15),(25,25)] false [(6,Nr 9)] 0 Proofs.Tryz.f46
def Gm:=BA Pj
theorem X9:Pj=some Gm:=Ac (by kernel_rfl)
abbrev Em:=tr [(10,13),(19,29),(31,31)] false [] 0 Proofs.Tryz.f47
def Bz:=BA Em
theorem JA:Em=some Bz:=Ac (by kernel_rfl)
abbrev gJ:=tr [(5,37)] false [] 0 Proofs.Tryz.f48
def Qs:=BA gJ
theorem AAZ:gJ=some Qs:=Ac (by kernel_rfl)
abbrev ZJ:=tr [(9,14),(20,53),(55,55),(60,63),(65,66)] false [] 0 Proofs.Tryz.f50
def Na:=BA ZJ
theorem rO:ZJ=some Na:=Ac (by kernel_rfl)
abbrev iC:=tr [(8,8),(10,26)] false [] 0 Proofs.Tryz.f51
def Qe:=BA iC
theorem y8:iC=some Qe:=Ac (by kernel_rfl)
abbrev lu:=tr [(5,30)] false [] 0 Proofs.Tryz.f52
def SY:=BA lu
theorem AA7:lu=some SY:=Ac (by kernel_rfl)
abbrev La:=tr [(3,3),(5,7)] false [] 0 Proofs.Tryz.f53
def Eu:=BA La
theorem Uh:La=some Eu:=Ac (by kernel_rfl)
abbrev Xx:=tr [(7,15),(20,33)] false [] 0 Proofs.Tryz.f54
def Kz:=BA Xx
theorem lS:Xx=some Kz:=Ac (by kernel_rfl)
abbrev yY:=tr [(8,14),(18,24),(31,32)] false [(3,Nr 4),(7,Nr 7)] 0 Proofs.Tryz.f58
def dM:=BA yY
theorem AEu:yY=some dM:=Ac (by kernel_rfl)
abbrev aI:=tr [(12,12),(16,16),(19,24),(29,48),(52,53)] false [(8,Nr 5)] 0 Proofs.Tryz.f59
def Ol:=BA aI
theorem vO:aI=some Ol:=Ac (by kernel_rfl)
abbrev dL:=tr [(9,9),(11,22),(24,24),(31,31)] false [(6,[(0,.plain),(1,.plain),(2,.plain),(4,.plain),(5,.plain),(3,.plain),(6,.wr),(7,.wr)])] 0 Proofs.Tryz.f67
def PN:=BA dL
theorem xR:dL=some PN:=Ac (by kernel_rfl)
abbrev dF:=tr [(10,10),(14,14),(17,22),(27,40),(44,45)] false [(8,Nr 5)] 0 Proofs.Tryz.f68
def PI:=BA dF
theorem xE:dF=some PI:=Ac (by kernel_rfl)
abbrev fK:=tr [(5,7)] false [] 0 Proofs.Tryz.f71
def Qq:=BA fK
theorem y9:fK=some Qq:=Ac (by kernel_rfl)
abbrev O5:=tr [(5,8)] false [] 0 Proofs.Tryz.f77
def GX:=BA O5
theorem Xg:O5=some GX:=Ac (by kernel_rfl)
abbrev ABF:=tr [(5,6),(10,10),(29,31),(35,35),(54,54)] false [(4,Nr 18),(10,Nr 18)] 0 Proofs.Tryz.f78
def Yw:=BA ABF
theorem AFr:ABF=some Yw:=Ac (by kernel_rfl)
abbrev dP:=tr [(7,7),(13,16),(18,20),(22,29),(31,31)] false [] 0 Proofs.Tryz.f79
def PL:=BA dP
theorem xG:dP=some PL:=Ac (by kernel_rfl)
abbrev qM:=tr [(5,30)] false [] 0 Proofs.Tryz.f80
def Ua:=BA qM
theorem ACV:qM=some Ua:=Ac (by kernel_rfl)
abbrev WT:=tr [(12,19),(21,39)] false [] 0 Proofs.Tryz.f82
def KD:=BA WT
theorem jO:WT=some KD:=Ac (by kernel_rfl)
abbrev XZ:=tr [(10,24),(26,26),(31,33),(38,40),(45,50),(52,68),(70,82)] false [(4,Nr 4),(6,Nr 4),(8,Nr 4)] 0 Proofs.Tryz.f83
def LP:=BA XZ
theorem lJ:XZ=some LP:=Ac (by kernel_rfl)
abbrev Py:=tr [(3,3),(5,7)] false [] 0 Proofs.Tryz.f84
def Gl:=BA Py
theorem YB:Py=some Gl:=Ac (by kernel_rfl)
abbrev AEi:=tr [(6,13),(18,28)] false [] 0 Proofs.Tryz.f85
def iG:=BA AEi
theorem AI2:AEi=some iG:=Ac (by kernel_rfl)
abbrev mD:=tr [(2,11)] false [] 0 Proofs.Tryz.f86
def TF:=BA mD
theorem AAw:mD=some TF:=Ac (by kernel_rfl)
abbrev Fe:=tr [(10,13),(19,29),(31,31)] false [] 0 Proofs.Tryz.f87
def CY:=BA Fe
theorem KZ:Fe=some CY:=Ac (by kernel_rfl)
abbrev qE:=tr [(5,44)] false [] 0 Proofs.Tryz.f88
def UZ:=BA qE
theorem ACF:qE=some UZ:=Ac (by kernel_rfl)
abbrev qB:=tr [(7,26),(28,28),(33,38),(40,40)] false [] 0 Proofs.Tryz.f90
def Us:=BA qB
theorem ACA:qB=some Us:=Ac (by kernel_rfl)
abbrev Fa:=tr [(10,13),(19,29),(31,31)] false [] 0 Proofs.Tryz.f91
def CX:=BA Fa
theorem KW:Fa=some CX:=Ac (by kernel_rfl)
abbrev aB:=tr [] false [(1,qA [0,1,2,3,4,9,5,6,7,8,10,11]),(2,Nr 18),(3,qA [0,1,2,3,4,5,6,7,8,10,11,12,13,14,15,9,16,17,18,19,20,21,22,23])] 0 Proofs.Tryz.f92
def OM:=BA aB
theorem vN:aB=some OM:=Ac (by kernel_rfl)
abbrev YL:=tr [(9,14),(19,39)] false [] 0 Proofs.Tryz.f93
def L8:=BA YL
theorem ni:YL=some L8:=Ac (by kernel_rfl)
abbrev AGw:=tr [(8,13),(20,27),(35,40),(42,43)] false [(3,Nr 7),(8,Nr 8)] 0 Proofs.Tryz.f97
def AAb:=BA AGw
theorem ALf:AGw=some AAb:=Ac (by kernel_rfl)
abbrev Y7:=tr [(5,19),(21,32),(34,35),(37,40),(50,57),(59,61),(69,84),(86,88)] false [(11,qA [0,1,2,4,3,5,6,7,8,9]),(15,Nr 8)] 0 Proofs.Tryz.f98
def Rl:=BA Y7
theorem qm:Y7=some Rl:=Ac (by kernel_rfl)
abbrev fZ:=tr [(3,8)] false [] 0 Proofs.Tryz.f99
def WH:=BA fZ
theorem zJ:fZ=some WH:=Ac (by kernel_rfl)
abbrev dH:=tr [(8,8),(13,17),(19,21)] false [] 0 Proofs.Tryz.f100
def PG:=BA dH
theorem yL:dH=some PG:=Ac (by kernel_rfl)
abbrev fV:=tr [(8,8),(13,17),(19,22)] false [] 0 Proofs.Tryz.f108
def Qd:=BA fV
theorem zS:fV=some Qd:=Ac (by kernel_rfl)
abbrev Oj:=tr [(5,7)] false [] 0 Proofs.Tryz.f110
def Fq:=BA Oj
theorem Wy:Oj=some Fq:=Ac (by kernel_rfl)
abbrev jv:=tr [(3,22)] false [] 0 Proofs.Tryz.f114
def Sz:=BA jv
theorem AAg:jv=some Sz:=Ac (by kernel_rfl)
abbrev ACz:=tr [(3,22)] false [] 0 Proofs.Tryz.f115
def aX:=BA ACz
theorem AHj:ACz=some aX:=Ac (by kernel_rfl)
abbrev Q7:=tr [(6,6),(10,15),(17,18)] false [] 0 Proofs.Tryz.f122
def Hr:=BA Q7
theorem Y5:Q7=some Hr:=Ac (by kernel_rfl)
abbrev Om:=tr [(6,9),(11,11),(15,15),(25,25)] false [(6,Nr 9)] 0 Proofs.Tryz.f123
def F6:=BA Om
theorem Wh:Om=some F6:=Ac (by kernel_rfl)
abbrev XK:=tr [(13,13),(16,32),(52,53),(67,67),(69,74),(100,102),(104,123),(125,127),(129,152),(154,155),(157,162),(179,179),(181,182),(184,189),(198,198),(200,202),(204,225)] false [(8,Nr 20),(10,Nr 14),(14,qA [0,1,2,3,4,5,6,7,8,9,13,10,11,12,14]),(15,qA [0,1,2,4,5,6,3,7,8,9,10]),(27,qA [0,1,3,4,5,2,6,7,8]),(28,qA [0,1,3,4,5,2,6,7,8]),(33,qA [0,1,3,4,5,2,6,7,8])] 0 Proofs.Tryz.f124
def LJ:=BA XK
theorem ji:XK=some LJ:=Ac (by kernel_rfl)
abbrev WS:=tr [(9,12),(17,18),(34,41),(43,51)] false [(5,Nr 15)] 0 Proofs.Tryz.f125
def J5:=BA WS
theorem jA:WS=some J5:=Ac (by kernel_rfl)
abbrev Yb:=tr [(7,7),(9,13),(16,22),(24,32),(34,34),(44,51),(53,53),(64,64),(73,77)] false [(10,qA [0,2,4,5,9,1,3,6,7,8,10]),(14,qA [0,2,3,5,1,4,6,7,8,9]),(16,qA [0,2,3,1,4,5,6,7]),(19,qA [0,1,5,7,2,3,4,6,8,9,10,11])] 0 Proofs.Tryz.f126
def Lp:=BA Yb
theorem nY:Yb=some Lp:=Ac (by kernel_rfl)
abbrev XG:=tr [(7,7),(9,16),(19,24),(26,34),(36,44),(46,46),(61,74),(76,82)] false [(12,qA [0,1,5,8,2,3,4,6,7,9,10,11,12,13]),(19,qA [0,1,5,8,2,3,4,6,7,9,10,11,12,13])] 0 Proofs.Tryz.f127
def LU:=BA XG
theorem jy:XG=some LU:=Ac (by kernel_rfl)
abbrev qC:=tr [(7,10)] false [] 0 Proofs.Tryz.f128
def Uj:=BA qC
theorem ACe:qC=some Uj:=Ac (by kernel_rfl)
abbrev Xc:=tr [(8,14),(16,20)] false [] 0 Proofs.Tryz.f129
def Ky:=BA Xc
theorem jo:Xc=some Ky:=Ac (by kernel_rfl)
abbrev qN:=tr [(3,4)] false [] 0 Proofs.Tryz.f130
def Uf:=BA qN
theorem ABu:qN=some Uf:=Ac (by kernel_rfl)
abbrev Vb:=tr [(10,34),(36,42),(44,45),(47,53),(55,65),(68,74),(76,91)] false [] 0 Proofs.Tryz.f131
def Ji:=BA Vb
theorem fH:Vb=some Ji:=Ac (by kernel_rfl)
abbrev Jv:=tr [(4,8)] false [] 0 Proofs.Tryz.f132
def EU:=BA Jv
theorem Rz:Jv=some EU:=Ac (by kernel_rfl)
abbrev cu:=tr [(5,9)] false [] 0 Proofs.Tryz.f133
def PY:=BA cu
theorem yP:cu=some PY:=Ac (by kernel_rfl)
abbrev JW:=tr [(4,8)] false [] 0 Proofs.Tryz.f134
def ED:=BA JW
theorem QL:JW=some ED:=Ac (by kernel_rfl)
abbrev bU:=tr [(5,9)] false [] 0 Proofs.Tryz.f135
def PW:=BA bU
theorem yB:bU=some PW:=Ac (by kernel_rfl)
abbrev Fp:=tr [(10,13),(19,29),(31,31)] false [] 0 Proofs.Tryz.f136
def CW:=BA Fp
theorem KY:Fp=some CW:=Ac (by kernel_rfl)
abbrev qR:=tr [(5,37)] false [] 0 Proofs.Tryz.f137
def Un:=BA qR
theorem ACD:qR=some Un:=Ac (by kernel_rfl)
abbrev yS:=tr [(1,1)] false [] 0 Proofs.Tryz.f141
def X3:=BA yS
theorem AFe:yS=some X3:=Ac (by kernel_rfl)
abbrev qK:=tr [(3,5)] false [] 0 Proofs.Tryz.f142
def Uo:=BA qK
theorem AB7:qK=some Uo:=Ac (by kernel_rfl)
abbrev gG:=tr [] false [(1,Nr 12)] 0 Proofs.Tryz.f143
def QV:=BA gG
theorem y5:gG=some QV:=Ac (by kernel_rfl)
abbrev bF:=tr [(8,10),(15,19),(21,24)] false [] 0 Proofs.Tryz.f145
def PS:=BA bF
theorem yE:bF=some PS:=Ac (by kernel_rfl)
abbrev ZW:=tr [(9,9),(11,20)] false [] 0 Proofs.Tryz.f146
def Nh:=BA ZW
theorem rP:ZW=some Nh:=Ac (by kernel_rfl)
abbrev Zd:=tr [(8,12),(14,14),(33,38),(43,45),(53,58),(60,65),(68,68),(82,90),(92,92),(113,114),(120,129),(131,131),(149,149),(155,155)] false [(3,qA [0,1,2,3,4,5,6,7,8,9,10,11,13,14,12,15,16,17]),(9,Nr 8),(16,qA [0,1,2,3,4,5,6,7,8,10,11,9,12]),(19,qA [0,1,2,3,4,5,6,7,8,9,10,11,13,14,15,16,17,12,18]),(22,Nr 5),(26,qA [0,1,2,3,4,5,6,7,8,9,10,11,13,14,12,15]),(28,Nr 5)] 0 Proofs.Tryz.f147
def Nc:=BA Zd
theorem sD:Zd=some Nc:=Ac (by kernel_rfl)
abbrev jm:=tr [(24,39),(61,61),(73,75)] false [(0,Nr 10),(1,Nr 10),(4,Nr 11),(5,Nr 11),(7,Nr 11)] 0 Proofs.Tryz.f153
def X0:=BA jm
theorem ABl:jm=some X0:=Ac (by kernel_rfl)
abbrev lD:=tr [(9,13),(24,24),(37,37),(49,52),(54,59),(61,68),(70,70),(72,85),(87,87),(89,92),(94,109)] false [(2,Nr 10),(4,Nr 10),(8,Nr 11)] 0 Proofs.Tryz.f154
def Xa:=BA lD
theorem AAi:lD=some Xa:=Ac (by kernel_rfl)
abbrev Zy:=tr [(10,14),(16,18)] false [] 0 Proofs.Tryz.f155
def UL:=BA Zy
theorem uT:Zy=some UL:=Ac (by kernel_rfl)
abbrev Z9:=tr [(5,17),(19,23)] false [] 0 Proofs.Tryz.f156
def Ti:=BA Z9
theorem uj:Z9=some Ti:=Ac (by kernel_rfl)
abbrev Zv:=tr [(5,8),(10,11)] false [] 0 Proofs.Tryz.f157
def UQ:=BA Zv
theorem uQ:Zv=some UQ:=Ac (by kernel_rfl)
abbrev dR:=tr [(4,6),(8,12)] false [] 0 Proofs.Tryz.f158
def VE:=BA dR
theorem xw:dR=some VE:=Ac (by kernel_rfl)
abbrev Zx:=tr [(4,4),(6,7)] false [] 0 Proofs.Tryz.f159
def UJ:=BA Zx
theorem uS:Zx=some UJ:=Ac (by kernel_rfl)
abbrev fM:=tr [(11,44),(46,46)] false [] 0 Proofs.Tryz.f160
def V4:=BA fM
theorem AAG:fM=some V4:=Ac (by kernel_rfl)
abbrev YV:=tr [(6,12),(17,34),(36,38),(40,44),(54,62)] false [(2,qA [0,1,4,2,3,5]),(11,qA [0,1,2,4,3,5,6,7,8,9])] 0 Proofs.Tryz.f161
def QS:=BA YV
theorem pI:YV=some QS:=Ac (by kernel_rfl)
abbrev Zr:=tr [(4,8),(10,21)] false [] 0 Proofs.Tryz.f162
def UA:=BA Zr
theorem wJ:Zr=some UA:=Ac (by kernel_rfl)
abbrev VZ:=tr [(5,7)] false [] 0 Proofs.Tryz.f174
def Jj:=BA VZ
theorem eG:VZ=some Jj:=Ac (by kernel_rfl)
abbrev YU:=tr [(3,13)] false [] 0 Proofs.Tryz.f175
def ML:=BA YU
theorem oP:YU=some ML:=Ac (by kernel_rfl)
abbrev WV:=tr [] false [(1,qA [0,2,3,1,4,5])] 0 Proofs.Tryz.f176
def J7:=BA WV
theorem jP:WV=some J7:=Ac (by kernel_rfl)
abbrev VX:=tr [(5,9)] false [] 0 Proofs.Tryz.f177
def Jg:=BA VX
theorem dw:VX=some Jg:=Ac (by kernel_rfl)
abbrev Ph:=tr [(10,12),(14,29),(31,34),(36,53),(55,62)] false [] 0 Proofs.Tryz.f178
def Gh:=BA Ph
theorem YK:Ph=some Gh:=Ac (by kernel_rfl)
abbrev O4:=tr [(10,12),(14,29),(31,34),(36,53),(55,62)] false [] 0 Proofs.Tryz.f179
def GV:=BA O4
theorem XO:O4=some GV:=Ac (by kernel_rfl)
abbrev gZ:=tr [(8,10),(15,30)] false [(3,Nr 4)] 0 Proofs.Tryz.f180
def Qn:=BA gZ
theorem AAa:gZ=some Qn:=Ac (by kernel_rfl)
abbrev ZT:=tr [(6,10),(12,17)] false [] 0 Proofs.Tryz.f181
def SE:=BA ZT
theorem rY:ZT=some SE:=Ac (by kernel_rfl)
abbrev OY:=tr [(3,3),(5,7)] false [] 0 Proofs.Tryz.f182
def F7:=BA OY
theorem Wu:OY=some F7:=Ac (by kernel_rfl)
abbrev ZH:=tr [(7,8),(10,11),(13,14),(16,18),(20,23),(25,27),(29,29),(40,46),(48,48),(58,64),(66,70),(72,72),(85,87),(89,89),(107,111),(113,113),(133,139),(141,141),(155,157)] false [(13,Nr 10),(16,qA [0,1,2,3,4,9,5,6,7,8,10,11]),(24,qA [0,1,2,3,4,5,6,7,9,10,8,11]),(27,Nr 5),(28,qA [0,1,2,3,4,5,6,7,9,10,8,11]),(31,Nr 13),(32,Nr 6),(35,Nr 13)] 0 Proofs.Tryz.f183
def Nl:=BA ZH
theorem qZ:ZH=some Nl:=Ac (by kernel_rfl)
abbrev YN:=tr [(13,14),(24,24)] false [(4,Nr 9)] 0 Proofs.Tryz.f184
def MB:=BA YN
theorem oK:YN=some MB:=Ac (by kernel_rfl)
abbrev lU:=tr [(7,15),(26,43)] false [(3,Nr 10)] 0 Proofs.Tryz.f191
def X4:=BA lU
theorem AAq:lU=some X4:=Ac (by kernel_rfl)
abbrev Zq:=tr [(5,7)] false [] 0 Proofs.Tryz.f192
def UN:=BA Zq
theorem tq:Zq=some UN:=Ac (by kernel_rfl)
abbrev aC:=tr [(5,7)] false [] 0 Proofs.Tryz.f193
def TT:=BA aC
theorem vT:aC=some TT:=Ac (by kernel_rfl)
abbrev ADB:=tr [(3,8)] false [] 0 Proofs.Tryz.f194
def pO:=BA ADB
theorem AHq:ADB=some pO:=Ac (by kernel_rfl)
abbrev qI:=tr [(33,34)] false [(2,Nr 27),(4,Nr 16)] 0 Proofs.Tryz.f195
def Yv:=BA qI
theorem ACI:qI=some Yv:=Ac (by kernel_rfl)
abbrev ADL:=tr [(3,16)] false [] 0 Proofs.Tryz.f196
def oJ:=BA ADL
theorem AIT:ADL=some oJ:=Ac (by kernel_rfl)
abbrev ADS:=tr [(3,8)] false [] 0 Proofs.Tryz.f197
def pG:=BA ADS
theorem AHT:ADS=some pG:=Ac (by kernel_rfl)
abbrev AC7:=tr [(5,25)] false [] 0 Proofs.Tryz.f198
def oC:=BA AC7
theorem AHC:AC7=some oC:=Ac (by kernel_rfl)
abbrev ACv:=tr [(3,8)] false [] 0 Proofs.Tryz.f199
def o7:=BA ACv
theorem AHf:ACv=some o7:=Ac (by kernel_rfl)
abbrev AAn:=tr [(7,7),(12,20),(22,23)] false [] 0 Proofs.Tryz.f200
def iJ:=BA AAn
theorem AFs:AAn=some iJ:=Ac (by kernel_rfl)
abbrev Zu:=tr [(4,11),(13,21)] false [] 0 Proofs.Tryz.f201
def UE:=BA Zu
theorem wK:Zu=some UE:=Ac (by kernel_rfl)
abbrev aA:=tr [(4,6),(8,13)] false [] 0 Proofs.Tryz.f202
def Tv:=BA aA
theorem tX:aA=some Tv:=Ac (by kernel_rfl)
abbrev ZU:=tr [(4,14),(16,21)] true [] 250 Proofs.Tryz.f203
def RV:=BA ZU
theorem qw:ZU=some RV:=Ac (by kernel_rfl)
abbrev LQ:=tr [(10,13),(15,17),(35,36)] false [(4,Nr 17),(6,Nr 18)] 0 Proofs.Tryz.f214
def En:=BA LQ
theorem UO:LQ=some En:=Ac (by kernel_rfl)
abbrev OO:=tr [(25,27),(29,32),(34,39),(51,57),(59,60),(77,79),(81,84),(86,91),(104,109),(111,112),(129,139),(141,150),(152,157),(172,184),(186,198),(200,212),(214,219)] false [(5,Nr 11),(11,Nr 18),(17,Nr 12),(23,Nr 18),(35,Nr 14)] 0 Proofs.Tryz.f215
def Ip:=BA OO
theorem Wx:OO=some Ip:=Ac (by kernel_rfl)
abbrev KH:=tr [(10,13),(15,17),(35,36)] false [(4,Nr 17),(6,Nr 18)] 0 Proofs.Tryz.f216
def EX:=BA KH
theorem TM:KH=some EX:=Ac (by kernel_rfl)
abbrev Nu:=tr [(25,27),(29,32),(34,39),(51,57),(59,60),(77,79),(81,84),(86,91),(104,109),(111,112),(129,139),(141,150),(152,157),(172,184),(186,198),(200,212),(214,219)] false [(5,Nr 11),(11,Nr 18),(17,Nr 12),(23,Nr 18),(35,Nr 14)] 0 Proofs.Tryz.f217
def IV:=BA Nu
theorem Vz:Nu=some IV:=Ac (by kernel_rfl)
abbrev dW:=tr [(8,17)] false [] 0 Proofs.Tryz.f218
def PE:=BA dW
theorem yF:dW=some PE:=Ac (by kernel_rfl)
abbrev Zc:=tr [(7,17),(22,24),(34,40)] false [(5,Nr 10)] 0 Proofs.Tryz.f219
def NZ:=BA Zc
theorem rG:Zc=some NZ:=Ac (by kernel_rfl)
abbrev XR:=tr [(20,23),(63,66),(83,89),(118,123)] false [(0,Nr 11),(2,Nr 14),(3,qA [0,1,3,4,5,6,7,8,9,2,10,11]),(4,qA [0,1,2,3,4,5,6,8,9,10,11,7,12,13]),(6,qA [0,1,2,3,4,5,6,7,8,9,15,10,11,12,13,14,16,17,18]),(8,Nr 10),(9,qA [0,1,2,3,4,5,6,7,8,9,10,11,12,13,14,20,15,16,17,18,19,21,22,23]),(11,Nr 7),(12,Nr 11)] 0 Proofs.Tryz.f220
def Kt:=BA XR
theorem jf:XR=some Kt:=Ac (by kernel_rfl)
abbrev ZI:=tr [(14,28),(30,33),(35,39),(47,50),(52,70),(78,81),(83,101),(134,144),(146,149),(151,162),(194,197)] false [(5,Nr 7),(8,Nr 7),(12,qA [0,1,8,9,10,11,12,13,14,2,3,4,5,6,7,15]),(13,qA [0,1,2,3,4,5,6,7,8,9,11,12,13,14,10,15]),(18,Nr 18),(19,qA [0,1,2,3,4,5,12,13,14,15,6,7,8,9,10,11,16]),(0,Nr 7)] 0 Proofs.Tryz.f221
def NV:=BA ZI
theorem qx:ZI=some NV:=Ac (by kernel_rfl)
abbrev Oa:=tr [(5,17)] false [] 0 Proofs.Tryz.f224
def I7:=BA Oa
theorem XB:Oa=some I7:=Ac (by kernel_rfl)
abbrev Oh:=tr [(5,7)] false [] 0 Proofs.Tryz.f225
def Iw:=BA Oh
theorem Wi:Oh=some Iw:=Ac (by kernel_rfl)
abbrev Zz:=tr [(3,13),(15,17)] false [] 0 Proofs.Tryz.f226
def Tz:=BA Zz
theorem vV:Zz=some Tz:=Ac (by kernel_rfl)
abbrev aK:=tr [(4,13),(15,30),(32,36),(38,48),(50,56),(58,68)] false [] 0 Proofs.Tryz.f227
def Tj:=BA aK
theorem vg:aK=some Tj:=Ac (by kernel_rfl)
abbrev QB:=tr [(12,19),(21,22),(24,57)] false [] 0 Proofs.Tryz.f246
def Jb:=BA QB
theorem YF:QB=some Jb:=Ac (by kernel_rfl)
abbrev O8:=tr [(12,19),(21,22),(24,57)] false [] 0 Proofs.Tryz.f247
def JG:=BA O8
theorem X7:O8=some JG:=Ac (by kernel_rfl)
abbrev Y9:=tr [(10,19),(25,27),(44,44)] false [(5,qA [0,1,2,3,4,5,6,7,8,9,10,11,13,14,12,15])] 0 Proofs.Tryz.f248
def Nj:=BA Y9
theorem sF:Y9=some Nj:=Ac (by kernel_rfl)
abbrev YZ:=tr [(1,7)] false [] 0 Proofs.Tryz.f250
def MH:=BA YZ
theorem oO:YZ=some MH:=Ac (by kernel_rfl)
abbrev Z7:=tr [(3,7)] true [] 250 Proofs.Tryz.f251
def Tf:=BA Z7
theorem vX:Z7=some Tf:=Ac (by kernel_rfl)
abbrev YQ:=tr [(4,24),(26,27),(29,36)] true [] 250 Proofs.Tryz.f252
def QM:=BA YQ
theorem nU:YQ=some QM:=Ac (by kernel_rfl)
abbrev ZY:=tr [(5,6),(15,17),(19,25),(27,40),(42,46)] false [(1,Nr 10),(8,Nr 16)] 0 Proofs.Tryz.f253
def Ro:=BA ZY
theorem rD:ZY=some Ro:=Ac (by kernel_rfl)
abbrev Nq:=tr [(11,12),(14,15)] false [(3,Nr 24)] 0 Proofs.Tryz.f266
def IX:=BA Nq
theorem WC:Nq=some IX:=Ac (by kernel_rfl)
abbrev NM:=tr [(11,12),(14,15)] false [(3,Nr 24)] 0 Proofs.Tryz.f267
def Hz:=BA NM
theorem VQ:NM=some Hz:=Ac (by kernel_rfl)
abbrev YW:=tr [(11,15),(17,19),(27,27)] false [(4,Nr 8)] 0 Proofs.Tryz.f268
def QG:=BA YW
theorem pW:YW=some QG:=Ac (by kernel_rfl)
abbrev YO:=tr [(2,5)] false [] 0 Proofs.Tryz.f269
def Qi:=BA YO
theorem pX:YO=some Qi:=Ac (by kernel_rfl)
abbrev WX:=tr [(6,10),(12,13),(23,23)] false [(5,Nr 10)] 0 Proofs.Tryz.f270
def O0:=BA WX
theorem jJ:WX=some O0:=Ac (by kernel_rfl)
abbrev Uy:=tr [(2,5)] false [] 0 Proofs.Tryz.f277
def Mc:=BA Uy
theorem bP:Uy=some Mc:=Ac (by kernel_rfl)
abbrev ZF:=tr [(9,12),(14,15),(25,25)] false [(4,Nr 10)] 0 Proofs.Tryz.f278
def Rt:=BA ZF
theorem qW:ZF=some Rt:=Ac (by kernel_rfl)
abbrev SS:=tr [(2,6)] false [] 0 Proofs.Tryz.f279
def LX:=BA SS
theorem Zl:SS=some LX:=Ac (by kernel_rfl)
abbrev Za:=tr [(9,15),(20,25),(27,30),(42,46),(48,51),(62,62)] true [(8,Nr 15),(16,qA [0,1,2,3,6,7,4,5,8,9])] 250 Proofs.Tryz.f280
def SB:=BA Za
theorem qo:Za=some SB:=Ac (by kernel_rfl)
abbrev ZA:=tr [(5,14),(16,17),(24,26),(28,33)] false [(5,Nr 7)] 0 Proofs.Tryz.f281
def RU:=BA ZA
theorem rU:ZA=some RU:=Ac (by kernel_rfl)
abbrev aH:=tr [(5,15),(17,20),(22,26),(32,36),(42,59),(61,63),(65,67),(69,71),(73,75),(77,83),(85,95),(97,98),(100,107)] false [(8,Nr 6),(11,Nr 6)] 0 Proofs.Tryz.f282
def TQ:=BA aH
theorem tZ:aH=some TQ:=Ac (by kernel_rfl)
abbrev Ya:=tr [(8,8),(10,18),(20,24)] false [(6,Nr 9)] 0 Proofs.Tryz.f283
def QU:=BA Ya
theorem nK:Ya=some QU:=Ac (by kernel_rfl)
abbrev aF:=tr [(4,12),(14,15),(17,29)] false [] 0 Proofs.Tryz.f284
def TV:=BA aF
theorem tK:aF=some TV:=Ac (by kernel_rfl)
def F:T AF:=(.n none (.n none (.n none (.n none (.n none (.n none (.n none (.n (some LU) .e .e) (.n (some X4) .e .e)) (.n none (.n (some UJ) .e .e) .e)) (.n (some Bz) (.n (some PL) (.n (some QV) .e .e) .e) (.n none (.n (some ML) .e .e) .e))) (.n none (.n (some Zp) (.n (some Qq) (.n (some PW) .e .e) (.n (some o7) .e .e)) .e) (.n none (.n (some CY) (.n none (.n (some LX) .e .e) .e) (.n (some Ip) .e .e)) (.n none (.n (some Nl) .e .e) (.n (some JG) .e .e))))) (.n none (.n (some NW) (.n none (.n (some PN) (.n (some Ji) .e .e) (.n (some Yv) .e .e)) (.n (some WH) .e (.n (some Tj) .e .e))) (.n (some Qe) (.n (some LP) (.n (some Nc) .e .e) .e) (.n (some aX) (.n (some GV) .e .e) .e))) (.n none (.n (some gU) (.n none (.n none (.n (some Hz) .e .e) .e) (.n (some RV) .e .e)) .e) (.n (some Ol) (.n (some CX) (.n (some UL) (.n (some QU) .e .e) .e) (.n (some NZ) .e .e)) (.n (some F6) .e (.n (some Tf) .e .e)))))) (.n (some MK) (.n none (.n (some Si) (.n none (.n none (.n (some Ky) .e .e) (.n (some TT) .e .e)) (.n (some AAb) (.n (some QS) .e .e) (.n (some Iw) .e .e))) (.n none (.n none (.n (some PS) .e .e) .e) (.n none (.n (some Jg) .e .e) .e))) (.n none (.n (some SX) (.n none (.n (some Un) .e .e) (.n (some UE) .e .e)) .e) (.n none (.n none (.n (some X0) (.n (some RU) .e .e) .e) (.n (some IV) .e .e)) .e))) (.n (some XF) (.n none (.n (some PK) (.n none (.n (some PY) .e .e) (.n (some pG) .e .e)) .e) (.n (some Eu) (.n (some iG) (.n none (.n (some Mc) .e .e) .e) .e) (.n none (.n (some SE) .e .e) .e))) (.n none (.n (some nV) (.n (some GX) (.n (some X3) (.n (some Qi) .e .e) .e) .e) .e) (.n none (.n (some L8) (.n (some UQ) .e .e) (.n (some NV) .e .e)) (.n (some J5) .e (.n (some Ro) .e .e))))))) (.n none (.n none (.n none (.n (some Qk) (.n none (.n none (.n (some Uj) .e .e) (.n (some UN) .e .e)) (.n none (.n (some V4) .e .e) (.n (some I7) .e .e))) (.n (some Qs) (.n (some Ua) .e .e) (.n none (.n (some J7) .e .e) .e))) (.n none (.n (some wV) (.n none (.n (some CW) .e .e) (.n (some iJ) .e .e)) .e) (.n none (.n (some UZ) (.n none (.n (some SB) .e .e) .e) (.n (some EX) .e .e)) (.n none (.n (some MB) .e .e) (.n (some Nj) .e .e))))) (.n none (.n (some Xw) (.n (some fU) (.n (some PI) (.n (some EU) .e .e) (.n (some oJ) .e .e)) (.n (some PG) .e .e)) (.n (some SY) (.n (some Gl) .e .e) (.n none (.n (some Qn) .e .e) .e))) (.n none (.n (some LD) (.n none (.n none (.n (some QG) .e .e) .e) .e) (.n (some Qd) .e .e)) (.n none (.n (some OM) (.n (some Ti) (.n (some TV) .e .e) .e) (.n (some Kt) .e .e)) (.n (some LJ) .e (.n (some QM) .e .e)))))) (.n none (.n none (.n none (.n none (.n none (.n (some Uf) .e .e) (.n (some pO) .e .e)) (.n (some Rl) (.n (some UA) .e .e) (.n (some Tz) .e .e))) (.n (some Na) (.n (some KD) (.n (some Nh) .e .e) .e) (.n (some Sz) (.n (some Gh) .e .e) .e))) (.n none (.n (some Jh) (.n none (.n none (.n (some IX) .e .e) .e) (.n (some Tv) .e .e)) .e) (.n (some dM) (.n (some Us) (.n (some Xa) (.n (some TQ) .e .e) .e) (.n (some PE) .e .e)) (.n (some Hr) .e (.n (some MH) .e .e))))) (.n (some OJ) (.n none (.n none (.n none (.n (some ED) .e .e) (.n (some oC) .e .e)) .e) (.n (some Kz) (.n (some TF) (.n none (.n (some Rt) .e .e) .e) (.n (some En) .e .e)) (.n none (.n (some F7) .e .e) (.n (some Jb) .e .e)))) (.n (some og) (.n (some Gm) (.n (some Yw) (.n (some Uo) (.n (some O0) .e .e) .e) .e) (.n (some Fq) (.n (some Jj) .e .e) .e)) (.n none (.n none (.n (some VE) .e .e) .e) (.n (some Lp) .e .e)))))))
theorem Qm:T.get F 5=some MK:=by kernel_rfl
theorem UC:T.get F 14=some OJ:=by kernel_rfl
theorem V5:T.get F 16=some Qk:=by kernel_rfl
theorem XP:T.get F 17=some Si:=by kernel_rfl
theorem SC:T.get F 19=some NW:=by kernel_rfl
theorem bY:T.get F 20=some Xw:=by kernel_rfl
theorem zQ:T.get F 30=some og:=by kernel_rfl
theorem tY:T.get F 36=some fU:=by kernel_rfl
theorem VF:T.get F 37=some PK:=by kernel_rfl
theorem ACY:T.get F 40=some wV:=by kernel_rfl
theorem Xy:T.get F 41=some SX:=by kernel_rfl
theorem OA:T.get F 42=some Jh:=by kernel_rfl
theorem tH:T.get F 43=some gU:=by kernel_rfl
theorem Pm:T.get F 44=some LD:=by kernel_rfl
theorem zO:T.get F 45=some nV:=by kernel_rfl
theorem Ey:T.get F 46=some Gm:=by kernel_rfl
theorem DR:T.get F 47=some Bz:=by kernel_rfl
theorem Vy:T.get F 48=some Qs:=by kernel_rfl
theorem Ri:T.get F 50=some Na:=by kernel_rfl
theorem V6:T.get F 51=some Qe:=by kernel_rfl
theorem XJ:T.get F 52=some SY:=by kernel_rfl
theorem G5:T.get F 53=some Eu:=by kernel_rfl
theorem QC:T.get F 54=some Kz:=by kernel_rfl
theorem KN:T.get F 59=some Ol:=by kernel_rfl
theorem VB:T.get F 67=some PN:=by kernel_rfl
theorem U7:T.get F 68=some PI:=by kernel_rfl
theorem Vt:T.get F 71=some Qq:=by kernel_rfl
theorem JI:T.get F 77=some GX:=by kernel_rfl
theorem jE:T.get F 78=some Yw:=by kernel_rfl
theorem VG:T.get F 79=some PL:=by kernel_rfl
theorem Yj:T.get F 80=some Ua:=by kernel_rfl
theorem Ot:T.get F 82=some KD:=by kernel_rfl
theorem P8:T.get F 83=some LP:=by kernel_rfl
theorem JZ:T.get F 84=some Gl:=by kernel_rfl
theorem tu:T.get F 85=some iG:=by kernel_rfl
theorem Xv:T.get F 86=some TF:=by kernel_rfl
theorem Dx:T.get F 87=some CY:=by kernel_rfl
theorem Yr:T.get F 88=some UZ:=by kernel_rfl
theorem Yf:T.get F 90=some Us:=by kernel_rfl
theorem Dz:T.get F 91=some CX:=by kernel_rfl
theorem TR:T.get F 92=some OM:=by kernel_rfl
theorem Qa:T.get F 93=some L8:=by kernel_rfl
theorem U3:T.get F 100=some PG:=by kernel_rfl
theorem Vu:T.get F 108=some Qd:=by kernel_rfl
theorem I4:T.get F 110=some Fq:=by kernel_rfl
theorem Xu:T.get F 114=some Sz:=by kernel_rfl
theorem oV:T.get F 115=some aX:=by kernel_rfl
theorem KO:T.get F 122=some Hr:=by kernel_rfl
theorem Iu:T.get F 123=some F6:=by kernel_rfl
theorem Pg:T.get F 124=some LJ:=by kernel_rfl
theorem Oy:T.get F 125=some J5:=by kernel_rfl
theorem JJ:T.get F 126=some Lp:=by kernel_rfl
theorem Ih:T.get F 127=some LU:=by kernel_rfl
theorem Yq:T.get F 128=some Uj:=by kernel_rfl
theorem Pz:T.get F 129=some Ky:=by kernel_rfl
theorem Yt:T.get F 130=some Uf:=by kernel_rfl
theorem OC:T.get F 131=some Ji:=by kernel_rfl
theorem GI:T.get F 132=some EU:=by kernel_rfl
theorem VH:T.get F 133=some PY:=by kernel_rfl
theorem FU:T.get F 134=some ED:=by kernel_rfl
theorem VD:T.get F 135=some PW:=by kernel_rfl
theorem Dw:T.get F 136=some CW:=by kernel_rfl
theorem Ye:T.get F 137=some Un:=by kernel_rfl
theorem dO:T.get F 141=some X3:=by kernel_rfl
theorem Yi:T.get F 142=some Uo:=by kernel_rfl
theorem WA:T.get F 143=some QV:=by kernel_rfl
theorem U2:T.get F 145=some PS:=by kernel_rfl
theorem Ry:T.get F 146=some Nh:=by kernel_rfl
theorem RZ:T.get F 147=some Nc:=by kernel_rfl
theorem OB:T.get F 174=some Jj:=by kernel_rfl
theorem QN:T.get F 175=some ML:=by kernel_rfl
theorem Ov:T.get F 176=some J7:=by kernel_rfl
theorem OD:T.get F 177=some Jg:=by kernel_rfl
theorem Jf:T.get F 178=some Gh:=by kernel_rfl
theorem JB:T.get F 179=some GV:=by kernel_rfl
theorem V8:T.get F 180=some Qn:=by kernel_rfl
theorem I5:T.get F 182=some F7:=by kernel_rfl
theorem Ru:T.get F 183=some Nl:=by kernel_rfl
theorem Qp:T.get F 184=some MB:=by kernel_rfl
theorem Gp:T.get F 214=some En:=by kernel_rfl
theorem Gg:T.get F 216=some EX:=by kernel_rfl
theorem U8:T.get F 218=some PE:=by kernel_rfl
theorem RN:T.get F 219=some NZ:=by kernel_rfl
theorem PZ:T.get F 220=some Kt:=by kernel_rfl
theorem Df:T.get F 221=some NV:=by kernel_rfl
theorem Rf:T.get F 248=some Nj:=by kernel_rfl
theorem Lu:T.get F 250=some MH:=by kernel_rfl
abbrev Gu(n:Nat)(a:AF):Prop:=AAQ Go.Proofs.Tryz.prog F n a
theorem ok1{n:Nat}{a:AF}{fn:Func}{loc:Nat->Bool}{df:Bool}{ords:AJl}{dg:Nat}(hf:Go.Proofs.Tryz.prog.funcs[n]? =some fn)(ht:trF Go.Proofs.Tryz.prog loc df ords dg fn=some a)(hn:(fn.name== "runtime.NumGoroutine")=false:=by kernel_rfl)(hd:a.dg=dg:=by kernel_rfl)(hi:AKk a.dp=true:=by kernel_rfl):Gu n a:=.one hf hn ht hd hi
theorem iI:Gu 5 MK:=ok1 Proofs.Tryz.func5 oD
theorem xO:Gu 13 XF:=ok1 Proofs.Tryz.func13 ABk
theorem pV:Gu 14 OJ:=ok1 Proofs.Tryz.func14 vZ
theorem uK:Gu 16 Qk:=ok1 Proofs.Tryz.func16 AAJ
theorem yR:Gu 17 Si:=ok1 Proofs.Tryz.func17 ABA
theorem kW:Gu 19 NW:=ok1 Proofs.Tryz.func19 sN
theorem AB5:Gu 20 Xw:=ok1 Proofs.Tryz.func20 AE4
theorem AHe:Gu 30 og:=ok1 Proofs.Tryz.func30 ALK
theorem AFq:Gu 36 fU:=ok1 Proofs.Tryz.func36 AIm
theorem rC:Gu 37 PK:=ok1 Proofs.Tryz.func37 xu
theorem ABe:Gu 39 Zp:=ok1 Proofs.Tryz.func39 ADg
theorem AIf:Gu 40 wV:=ok1 Proofs.Tryz.func40 ANd
theorem xY:Gu 41 SX:=ok1 Proofs.Tryz.func41 ABM
theorem aY:Gu 42 Jh:=ok1 Proofs.Tryz.func42 eH
theorem AF4:Gu 43 gU:=ok1 Proofs.Tryz.func43 AJV
theorem dh:Gu 44 LD:=ok1 Proofs.Tryz.func44 kX
theorem AIX:Gu 45 nV:=ok1 Proofs.Tryz.func45 AKU
theorem Ws:Gu 46 Gm:=ok1 Proofs.Tryz.func46 X9
theorem Ii:Gu 47 Bz:=ok1 Proofs.Tryz.func47 JA
theorem uN:Gu 48 Qs:=ok1 Proofs.Tryz.func48 AAZ
theorem jc:Gu 50 Na:=ok1 Proofs.Tryz.func50 rO
theorem vP:Gu 51 Qe:=ok1 Proofs.Tryz.func51 y8
theorem yD:Gu 52 SY:=ok1 Proofs.Tryz.func52 AA7
theorem TL:Gu 53 Eu:=ok1 Proofs.Tryz.func53 Uh
theorem fG:Gu 54 Kz:=ok1 Proofs.Tryz.func54 lS
theorem ACa:Gu 58 dM:=ok1 Proofs.Tryz.func58 AEu
theorem nN:Gu 59 Ol:=ok1 Proofs.Tryz.func59 vO
theorem qc:Gu 67 PN:=ok1 Proofs.Tryz.func67 xR
theorem rW:Gu 68 PI:=ok1 Proofs.Tryz.func68 xE
theorem uH:Gu 71 Qq:=ok1 Proofs.Tryz.func71 y9
theorem Vs:Gu 77 GX:=ok1 Proofs.Tryz.func77 Xg
theorem ADd:Gu 78 Yw:=ok1 Proofs.Tryz.func78 AFr
theorem sK:Gu 79 PL:=ok1 Proofs.Tryz.func79 xG
theorem AAT:Gu 80 Ua:=ok1 Proofs.Tryz.func80 ACV
theorem bJ:Gu 82 KD:=ok1 Proofs.Tryz.func82 jO
theorem eU:Gu 83 LP:=ok1 Proofs.Tryz.func83 lJ
theorem XA:Gu 84 Gl:=ok1 Proofs.Tryz.func84 YB
theorem AFx:Gu 85 iG:=ok1 Proofs.Tryz.func85 AI2
theorem xJ:Gu 86 TF:=ok1 Proofs.Tryz.func86 AAw
theorem J9:Gu 87 CY:=ok1 Proofs.Tryz.func87 KZ
theorem AAM:Gu 88 UZ:=ok1 Proofs.Tryz.func88 ACF
theorem zM:Gu 90 Us:=ok1 Proofs.Tryz.func90 ACA
theorem Jy:Gu 91 CX:=ok1 Proofs.Tryz.func91 KW
theorem oq:Gu 92 OM:=ok1 Proofs.Tryz.func92 vN
theorem iP:Gu 93 L8:=ok1 Proofs.Tryz.func93 ni
theorem AG8:Gu 97 AAb:=ok1 Proofs.Tryz.func97 ALf
theorem kD:Gu 98 Rl:=ok1 Proofs.Tryz.func98 qm
theorem vK:Gu 99 WH:=ok1 Proofs.Tryz.func99 zJ
theorem qV:Gu 100 PG:=ok1 Proofs.Tryz.func100 yL
theorem wH:Gu 108 Qd:=ok1 Proofs.Tryz.func108 zS
theorem VP:Gu 110 Fq:=ok1 Proofs.Tryz.func110 Wy
theorem yK:Gu 114 Sz:=ok1 Proofs.Tryz.func114 AAg
theorem AEE:Gu 115 aX:=ok1 Proofs.Tryz.func115 AHj
theorem YD:Gu 122 Hr:=ok1 Proofs.Tryz.func122 Y5
theorem VY:Gu 123 F6:=ok1 Proofs.Tryz.func123 Wh
theorem fC:Gu 124 LJ:=ok1 Proofs.Tryz.func124 ji
theorem cO:Gu 125 J5:=ok1 Proofs.Tryz.func125 jA
theorem iM:Gu 126 Lp:=ok1 Proofs.Tryz.func126 nY
theorem eu:Gu 127 LU:=ok1 Proofs.Tryz.func127 jy
theorem AAR:Gu 128 Uj:=ok1 Proofs.Tryz.func128 ACe
theorem eF:Gu 129 Ky:=ok1 Proofs.Tryz.func129 jo
theorem y7:Gu 130 Uf:=ok1 Proofs.Tryz.func130 ABu
theorem aQ:Gu 131 Ji:=ok1 Proofs.Tryz.func131 fH
theorem QO:Gu 132 EU:=ok1 Proofs.Tryz.func132 Rz
theorem ru:Gu 133 PY:=ok1 Proofs.Tryz.func133 yP
theorem Px:Gu 134 ED:=ok1 Proofs.Tryz.func134 QL
theorem qh:Gu 135 PW:=ok1 Proofs.Tryz.func135 yB
theorem J4:Gu 136 CW:=ok1 Proofs.Tryz.func136 KY
theorem zZ:Gu 137 Un:=ok1 Proofs.Tryz.func137 ACD
theorem ACl:Gu 141 X3:=ok1 Proofs.Tryz.func141 AFe
theorem zo:Gu 142 Uo:=ok1 Proofs.Tryz.func142 AB7
theorem tN:Gu 143 QV:=ok1 Proofs.Tryz.func143 y5
theorem qX:Gu 145 PS:=ok1 Proofs.Tryz.func145 yE
theorem lH:Gu 146 Nh:=ok1 Proofs.Tryz.func146 rP
theorem jr:Gu 147 Nc:=ok1 Proofs.Tryz.func147 sD
theorem xq:Gu 153 X0:=ok1 Proofs.Tryz.func153 ABl
theorem yN:Gu 154 Xa:=ok1 Proofs.Tryz.func154 AAi
theorem oI:Gu 155 UL:=ok1 Proofs.Tryz.func155 uT
theorem oL:Gu 156 Ti:=ok1 Proofs.Tryz.func156 uj
theorem oG:Gu 157 UQ:=ok1 Proofs.Tryz.func157 uQ
theorem sG:Gu 158 VE:=ok1 Proofs.Tryz.func158 xw
theorem ou:Gu 159 UJ:=ok1 Proofs.Tryz.func159 uS
theorem wC:Gu 160 V4:=ok1 Proofs.Tryz.func160 AAG
theorem jS:Gu 161 QS:=ok1 Proofs.Tryz.func161 pI
theorem nP:Gu 162 UA:=ok1 Proofs.Tryz.func162 wJ
theorem aP:Gu 174 Jj:=ok1 Proofs.Tryz.func174 eG
theorem iV:Gu 175 ML:=ok1 Proofs.Tryz.func175 oP
theorem dX:Gu 176 J7:=ok1 Proofs.Tryz.func176 jP
theorem aW:Gu 177 Jg:=ok1 Proofs.Tryz.func177 dw
theorem XD:Gu 178 Gh:=ok1 Proofs.Tryz.func178 YK
theorem V7:Gu 179 GV:=ok1 Proofs.Tryz.func179 XO
theorem vw:Gu 180 Qn:=ok1 Proofs.Tryz.func180 AAa
theorem kT:Gu 181 SE:=ok1 Proofs.Tryz.func181 rY
theorem Vf:Gu 182 F7:=ok1 Proofs.Tryz.func182 Wu
theorem lQ:Gu 183 Nl:=ok1 Proofs.Tryz.func183 qZ
theorem jY:Gu 184 MB:=ok1 Proofs.Tryz.func184 oK
theorem xC:Gu 191 X4:=ok1 Proofs.Tryz.func191 AAq
theorem pK:Gu 192 UN:=ok1 Proofs.Tryz.func192 tq
theorem o8:Gu 193 TT:=ok1 Proofs.Tryz.func193 vT
theorem AEq:Gu 194 pO:=ok1 Proofs.Tryz.func194 AHq
theorem zF:Gu 195 Yv:=ok1 Proofs.Tryz.func195 ACI
theorem AFV:Gu 196 oJ:=ok1 Proofs.Tryz.func196 AIT
theorem AFb:Gu 197 pG:=ok1 Proofs.Tryz.func197 AHT
theorem AEk:Gu 198 oC:=ok1 Proofs.Tryz.func198 AHC
theorem AFi:Gu 199 o7:=ok1 Proofs.Tryz.func199 AHf
theorem ADY:Gu 200 iJ:=ok1 Proofs.Tryz.func200 AFs
theorem nD:Gu 201 UE:=ok1 Proofs.Tryz.func201 wK
theorem pU:Gu 202 Tv:=ok1 Proofs.Tryz.func202 tX
theorem jw:Gu 203 RV:=.two Proofs.Tryz.func203 (by kernel_rfl) qw (by kernel_rfl) Lu (by kernel_rfl)
theorem RQ:Gu 214 En:=ok1 Proofs.Tryz.func214 UO
theorem Ve:Gu 215 Ip:=ok1 Proofs.Tryz.func215 Wx
theorem RD:Gu 216 EX:=ok1 Proofs.Tryz.func216 TM
theorem VA:Gu 217 IV:=ok1 Proofs.Tryz.func217 Vz
theorem sJ:Gu 218 PE:=ok1 Proofs.Tryz.func218 yF
theorem kV:Gu 219 NZ:=ok1 Proofs.Tryz.func219 rG
theorem eP:Gu 220 Kt:=ok1 Proofs.Tryz.func220 jf
theorem ku:Gu 221 NV:=ok1 Proofs.Tryz.func221 qx
theorem Vd:Gu 224 I7:=ok1 Proofs.Tryz.func224 XB
theorem VN:Gu 225 Iw:=ok1 Proofs.Tryz.func225 Wi
theorem nT:Gu 226 Tz:=ok1 Proofs.Tryz.func226 vV
theorem mX:Gu 227 Tj:=ok1 Proofs.Tryz.func227 vg
theorem Wp:Gu 246 Jb:=ok1 Proofs.Tryz.func246 YF
theorem WG:Gu 247 JG:=ok1 Proofs.Tryz.func247 X7
theorem kE:Gu 248 Nj:=ok1 Proofs.Tryz.func248 sF
theorem jI:Gu 250 MH:=ok1 Proofs.Tryz.func250 oO
theorem nS:Gu 251 Tf:=.two Proofs.Tryz.func251 (by kernel_rfl) vX (by kernel_rfl) Lu (by kernel_rfl)
theorem jF:Gu 252 QM:=.two Proofs.Tryz.func252 (by kernel_rfl) nU (by kernel_rfl) Lu (by kernel_rfl)
theorem mF:Gu 253 Ro:=ok1 Proofs.Tryz.func253 rD
theorem VI:Gu 266 IX:=ok1 Proofs.Tryz.func266 WC
theorem Ue:Gu 267 Hz:=ok1 Proofs.Tryz.func267 VQ
theorem iR:Gu 268 QG:=ok1 Proofs.Tryz.func268 pW
theorem iY:Gu 269 Qi:=ok1 Proofs.Tryz.func269 pX
theorem bH:Gu 270 O0:=ok1 Proofs.Tryz.func270 jJ
theorem Zh:Gu 277 Mc:=ok1 Proofs.Tryz.func277 bP
theorem lq:Gu 278 Rt:=ok1 Proofs.Tryz.func278 qW
theorem Yh:Gu 279 LX:=ok1 Proofs.Tryz.func279 Zl
theorem kG:Gu 280 SB:=.two Proofs.Tryz.func280 (by kernel_rfl) qo (by kernel_rfl) Lu (by kernel_rfl)
theorem kK:Gu 281 RU:=ok1 Proofs.Tryz.func281 rU
theorem pF:Gu 282 TQ:=ok1 Proofs.Tryz.func282 tZ
theorem iQ:Gu 283 QU:=ok1 Proofs.Tryz.func283 nK
theorem nH:Gu 284 TV:=ok1 Proofs.Tryz.func284 tK
theorem all_good:T.All (λp af=>AAQ Go.Proofs.Tryz.prog F p.key af) F:=(.n0 (.n0 (.n0 (.n0 (.n0 (.n0 (.n0 (.n1 eu .e .e) (.n1 xC .e .e)) (.n0 (.n1 ou .e .e) .e)) (.n1 Ii (.n1 sK (.n1 tN .e .e) .e) (.n0 (.n1 iV .e .e) .e))) (.n0 (.n1 ABe (.n1 uH (.n1 qh .e .e) (.n1 AFi .e .e)) .e) (.n0 (.n1 J9 (.n0 (.n1 Yh .e .e) .e) (.n1 Ve .e .e)) (.n0 (.n1 lQ .e .e) (.n1 WG .e .e))))) (.n0 (.n1 kW (.n0 (.n1 qc (.n1 aQ .e .e) (.n1 zF .e .e)) (.n1 vK .e (.n1 mX .e .e))) (.n1 vP (.n1 eU (.n1 jr .e .e) .e) (.n1 AEE (.n1 V7 .e .e) .e))) (.n0 (.n1 AF4 (.n0 (.n0 (.n1 Ue .e .e) .e) (.n1 jw .e .e)) .e) (.n1 nN (.n1 Jy (.n1 oI (.n1 iQ .e .e) .e) (.n1 kV .e .e)) (.n1 VY .e (.n1 nS .e .e)))))) (.n1 iI (.n0 (.n1 yR (.n0 (.n0 (.n1 eF .e .e) (.n1 o8 .e .e)) (.n1 AG8 (.n1 jS .e .e) (.n1 VN .e .e))) (.n0 (.n0 (.n1 qX .e .e) .e) (.n0 (.n1 aW .e .e) .e))) (.n0 (.n1 xY (.n0 (.n1 zZ .e .e) (.n1 nD .e .e)) .e) (.n0 (.n0 (.n1 xq (.n1 kK .e .e) .e) (.n1 VA .e .e)) .e))) (.n1 xO (.n0 (.n1 rC (.n0 (.n1 ru .e .e) (.n1 AFb .e .e)) .e) (.n1 TL (.n1 AFx (.n0 (.n1 Zh .e .e) .e) .e) (.n0 (.n1 kT .e .e) .e))) (.n0 (.n1 AIX (.n1 Vs (.n1 ACl (.n1 iY .e .e) .e) .e) .e) (.n0 (.n1 iP (.n1 oG .e .e) (.n1 ku .e .e)) (.n1 cO .e (.n1 mF .e .e))))))) (.n0 (.n0 (.n0 (.n1 uK (.n0 (.n0 (.n1 AAR .e .e) (.n1 pK .e .e)) (.n0 (.n1 wC .e .e) (.n1 Vd .e .e))) (.n1 uN (.n1 AAT .e .e) (.n0 (.n1 dX .e .e) .e))) (.n0 (.n1 AIf (.n0 (.n1 J4 .e .e) (.n1 ADY .e .e)) .e) (.n0 (.n1 AAM (.n0 (.n1 kG .e .e) .e) (.n1 RD .e .e)) (.n0 (.n1 jY .e .e) (.n1 kE .e .e))))) (.n0 (.n1 AB5 (.n1 AFq (.n1 rW (.n1 QO .e .e) (.n1 AFV .e .e)) (.n1 qV .e .e)) (.n1 yD (.n1 XA .e .e) (.n0 (.n1 vw .e .e) .e))) (.n0 (.n1 dh (.n0 (.n0 (.n1 iR .e .e) .e) .e) (.n1 wH .e .e)) (.n0 (.n1 oq (.n1 oL (.n1 nH .e .e) .e) (.n1 eP .e .e)) (.n1 fC .e (.n1 jF .e .e)))))) (.n0 (.n0 (.n0 (.n0 (.n0 (.n1 y7 .e .e) (.n1 AEq .e .e)) (.n1 kD (.n1 nP .e .e) (.n1 nT .e .e))) (.n1 jc (.n1 bJ (.n1 lH .e .e) .e) (.n1 yK (.n1 XD .e .e) .e))) (.n0 (.n1 aY (.n0 (.n0 (.n1 VI .e .e) .e) (.n1 pU .e .e)) .e) (.n1 ACa (.n1 zM (.n1 yN (.n1 pF .e .e) .e) (.n1 sJ .e .e)) (.n1 YD .e (.n1 jI .e .e))))) (.n1 pV (.n0 (.n0 (.n0 (.n1 Px .e .e) (.n1 AEk .e .e)) .e) (.n1 fG (.n1 xJ (.n0 (.n1 lq .e .e) .e) (.n1 RQ .e .e)) (.n0 (.n1 Vf .e .e) (.n1 Wp .e .e)))) (.n1 AHe (.n1 Ws (.n1 ADd (.n1 zo (.n1 bH .e .e) .e) .e) (.n1 VP (.n1 aP .e .e) .e)) (.n0 (.n0 (.n1 sG .e .e) .e) (.n1 iM .e .e)))))))
theorem AVv:AGp Go.Proofs.Tryz.prog F:=.AU5 (by kernel_rfl) all_good
end Go.RL
