/- Part of a proof; nothing is assumed. -/
import Derived.Test.YtmbhlmocojopaaaGreatDoorEngA
import Derived.Test.YtmbhlmocojopaaaGreatDoorEngF
import Derived.Test.YtmbhlmocojopaaaGreatDoorProg
set_option linter.unusedVariables false
set_option linter.unusedSimpArgs false
noncomputable section
namespace Go.RL
open Go.DW
set_option maxRecDepth 100000
abbrev tr(l:List (Nat×Nat))(d:Bool)(o:AJS)(g:Nat)(f:Func):Option AF:=trF Go.Proofs.Tryz.prog (inR l) d o g f
abbrev YX:=tr [(14,14),(16,32),(34,42),(47,73),(75,75)] false [] 0 Proofs.Tryz.f5
def MN:=BA YX
theorem oU:YX=some MN:=Ac (by kernel_rfl)
abbrev kP:=tr [(9,14),(25,30)] false [(4,qB [0,2,3,4,9,10,1,5,6,7,8,11,12]),(8,qB [0,2,3,4,9,10,1,5,6,7,8,11,12]),(9,Np 25)] 0 Proofs.Tryz.f13
def Xd:=BA kP
theorem ABQ:kP=some Xd:=Ac (by kernel_rfl)
abbrev aK:=tr [(6,16),(46,51),(63,64),(88,90)] false [(3,Np 11),(4,Np 9),(5,Np 12),(8,Np 11),(10,Np 12),(11,Np 12)] 0 Proofs.Tryz.f14
def OO:=BA aK
theorem vT:aK=some OO:=Ac (by kernel_rfl)
abbrev iF:=tr [(6,6),(11,20)] false [] 0 Proofs.Tryz.f16
def Qe:=BA iF
theorem AAS:iF=some Qe:=Ac (by kernel_rfl)
abbrev jk:=tr [(5,30)] false [] 0 Proofs.Tryz.f17
def Si:=BA jk
theorem AA8:jk=some Si:=Ac (by kernel_rfl)
abbrev ZB:=tr [(5,23),(25,25),(30,46),(48,48)] false [] 0 Proofs.Tryz.f19
def NU:=BA ZB
theorem sQ:ZB=some NU:=Ac (by kernel_rfl)
abbrev yV:=tr [(12,18),(32,36),(43,51),(56,58),(66,71),(78,79)] false [(2,Np 9),(3,Np 6),(6,Np 7),(12,Np 8),(15,Np 7)] 0 Proofs.Tryz.f20
def Xk:=BA yV
theorem AEo:yV=some Xk:=Ac (by kernel_rfl)
abbrev AGQ:=tr [(1,1)] false [] 0 Proofs.Tryz.f30
def pI:=BA AGQ
theorem ALw:AGQ=some pI:=Ac (by kernel_rfl)
abbrev AEW:=tr [(6,9),(14,15),(23,24)] false [(5,Np 8)] 0 Proofs.Tryz.f36
def fM:=BA AEW
theorem AJe:AEW=some fM:=Ac (by kernel_rfl)
abbrev bM:=tr [(10,10),(13,14),(18,18),(21,31),(33,49),(51,59),(61,62),(64,66),(71,77),(79,88),(90,91),(96,105),(107,127),(129,129)] false [] 0 Proofs.Tryz.f37
def PE:=BA bM
theorem xR:bM=some PE:=Ac (by kernel_rfl)
abbrev wE:=tr [(9,9),(14,22),(24,29)] false [] 0 Proofs.Tryz.f39
def Zj:=BA wE
theorem ADe:wE=some Zj:=Ac (by kernel_rfl)
abbrev AJd:=tr [(3,4)] false [] 0 Proofs.Tryz.f40
def xA:=BA AJd
theorem ANj:AJd=some xA:=Ac (by kernel_rfl)
abbrev lC:=tr [(1,1)] false [] 0 Proofs.Tryz.f41
def S9:=BA lC
theorem AAg:lC=some S9:=Ac (by kernel_rfl)
abbrev VK:=tr [(17,24),(26,31),(36,52),(63,63),(78,81)] false [(11,Np 11),(13,qB [0,1,4,6,7,2,3,5,8,9,10,11,12,13,14])] 0 Proofs.Tryz.f42
def Jg:=BA VK
theorem fH:VK=some Jg:=Ac (by kernel_rfl)
abbrev AFF:=tr [(1,1)] false [] 0 Proofs.Tryz.f43
def fQ:=BA AFF
theorem AJM:AFF=some fQ:=Ac (by kernel_rfl)
abbrev Xc:=tr [(6,10),(39,52)] false [(3,Np 28)] 0 Proofs.Tryz.f44
def LQ:=BA Xc
theorem ku:Xc=some LQ:=Ac (by kernel_rfl)
abbrev AGf:=tr [(14,14),(19,20),(28,30)] false [(1,qB [0,1,2,3,4,5,8,6,7,9]),(5,Np 8)] 0 Proofs.Tryz.f45
def oH:=BA AGf
theorem AKl:AGf=some oH:=Ac (by kernel_rfl)
abbrev Pq:=tr [(6,9),(11,11),(15,15),(25,25)] false [(6,Np 9)] 0 Proofs.Tryz.f46
def Gj:=BA Pq
theorem YD:Pq=some Gj:=Ac (by kernel_rfl)
abbrev Ee:=tr [(10,13),(19,29),(31,31)] false [] 0 Proofs.Tryz.f47
def Bz:=BA Ee
theorem I8:Ee=some Bz:=Ac (by kernel_rfl)
abbrev gW:=tr [(5,37)] false [] 0 Proofs.Tryz.f48
def Qd:=BA gW
theorem AAL:gW=some Qd:=Ac (by kernel_rfl)
abbrev Y6:=tr [(9,14),(20,53),(55,55),(60,63),(65,66)] false [] 0 Proofs.Tryz.f50
def NZ:=BA Y6
theorem qU:Y6=some NZ:=Ac (by kernel_rfl)
abbrev fZ:=tr [(8,8),(10,26)] false [] 0 Proofs.Tryz.f51
def Qg:=BA fZ
theorem y9:fZ=some Qg:=Ac (by kernel_rfl)
abbrev jh:=tr [(5,30)] false [] 0 Proofs.Tryz.f52
def Sr:=BA jh
theorem AA9:jh=some Sr:=Ac (by kernel_rfl)
abbrev LY:=tr [(3,3),(5,7)] false [] 0 Proofs.Tryz.f53
def Eu:=BA LY
theorem Un:LY=some Eu:=Ac (by kernel_rfl)
abbrev X6:=tr [(7,15),(20,33)] false [] 0 Proofs.Tryz.f54
def LJ:=BA X6
theorem mF:X6=some LJ:=Ac (by kernel_rfl)
abbrev yY:=tr [(8,14),(18,24),(31,32)] false [(3,Np 4),(7,Np 7)] 0 Proofs.Tryz.f58
def bG:=BA yY
theorem AEU:yY=some bG:=Ac (by kernel_rfl)
abbrev aB:=tr [(12,12),(16,16),(19,24),(29,48),(52,53)] false [(8,Np 5)] 0 Proofs.Tryz.f59
def OQ:=BA aB
theorem vN:aB=some OQ:=Ac (by kernel_rfl)
abbrev dB:=tr [(9,9),(11,22),(24,24),(31,31)] false [(6,[(0,.plain),(1,.plain),(2,.plain),(4,.plain),(5,.plain),(3,.plain),(6,.wr),(7,.wr)])] 0 Proofs.Tryz.f67
def PX:=BA dB
theorem yC:dB=some PX:=Ac (by kernel_rfl)
abbrev dS:=tr [(10,10),(14,14),(17,22),(27,40),(44,45)] false [(8,Np 5)] 0 Proofs.Tryz.f68
def PW:=BA dS
theorem xk:dS=some PW:=Ac (by kernel_rfl)
abbrev gy:=tr [(5,7)] false [] 0 Proofs.Tryz.f71
def QS:=BA gy
theorem zB:gy=some QS:=Ac (by kernel_rfl)
abbrev O4:=tr [(5,8)] false [] 0 Proofs.Tryz.f77
def GY:=BA O4
theorem Xj:O4=some GY:=Ac (by kernel_rfl)
abbrev ABZ:=tr [(5,6),(10,10),(29,31),(35,35),(54,54)] false [(4,Np 18),(10,Np 18)] 0 Proofs.Tryz.f78
def Yy:=BA ABZ
theorem AFz:ABZ=some Yy:=Ac (by kernel_rfl)
abbrev bU:=tr [(7,7),(13,16),(18,20),(22,29),(31,31)] false [] 0 Proofs.Tryz.f79
def PK:=BA bU
theorem xZ:bU=some PK:=Ac (by kernel_rfl)
abbrev qG:=tr [(5,30)] false [] 0 Proofs.Tryz.f80
def Ui:=BA qG
theorem ABz:qG=some Ui:=Ac (by kernel_rfl)
abbrev WU:=tr [(12,19),(21,39)] false [] 0 Proofs.Tryz.f82
def Jz:=BA WU
theorem jQ:WU=some Jz:=Ac (by kernel_rfl)
abbrev Xi:=tr [(10,24),(26,26),(31,33),(38,40),(45,50),(52,68),(70,82)] false [(4,Np 4),(6,Np 4),(8,Np 4)] 0 Proofs.Tryz.f83
def LG:=BA Xi
theorem kK:Xi=some LG:=Ac (by kernel_rfl)
abbrev QC:=tr [(3,3),(5,7)] false [] 0 Proofs.Tryz.f84
def Gh:=BA QC
theorem YF:QC=some Gh:=Ac (by kernel_rfl)
abbrev AEb:=tr [(6,13),(18,28)] false [] 0 Proofs.Tryz.f85
def fK:=BA AEb
theorem AIt:AEb=some fK:=Ac (by kernel_rfl)
abbrev kD:=tr [(2,11)] false [] 0 Proofs.Tryz.f86
def Sv:=BA kD
theorem ABN:kD=some Sv:=Ac (by kernel_rfl)
abbrev Fa:=tr [(10,13),(19,29),(31,31)] false [] 0 Proofs.Tryz.f87
def CW:=BA Fa
theorem KT:Fa=some CW:=Ac (by kernel_rfl)
abbrev qC:=tr [(5,44)] false [] 0 Proofs.Tryz.f88
def Ud:=BA qC
theorem AB6:qC=some Ud:=Ac (by kernel_rfl)
abbrev qE:=tr [(7,26),(28,28),(33,38),(40,40)] false [] 0 Proofs.Tryz.f90
def Uh:=BA qE
theorem ABx:qE=some Uh:=Ac (by kernel_rfl)
abbrev Fb:=tr [(10,13),(19,29),(31,31)] false [] 0 Proofs.Tryz.f91
def CY:=BA Fb
theorem KR:Fb=some CY:=Ac (by kernel_rfl)
abbrev Zv:=tr [] false [(1,qB [0,1,2,3,4,9,5,6,7,8,10,11]),(2,Np 18),(3,qB [0,1,2,3,4,5,6,7,8,10,11,12,13,14,15,9,16,17,18,19,20,21,22,23])] 0 Proofs.Tryz.f92
def OJ:=BA Zv
theorem vK:Zv=some OJ:=Ac (by kernel_rfl)
abbrev YW:=tr [(9,14),(19,39)] false [] 0 Proofs.Tryz.f93
def Ls:=BA YW
theorem pJ:YW=some Ls:=Ac (by kernel_rfl)
abbrev AGE:=tr [(8,13),(20,27),(35,40),(42,43)] false [(3,Np 7),(8,Np 8)] 0 Proofs.Tryz.f97
def zK:=BA AGE
theorem ALs:AGE=some zK:=Ac (by kernel_rfl)
abbrev Zc:=tr [(5,19),(21,32),(34,35),(37,40),(50,57),(59,61),(69,84),(86,88)] false [(11,qB [0,1,2,4,3,5,6,7,8,9]),(15,Np 8)] 0 Proofs.Tryz.f98
def Ro:=BA Zc
theorem rV:Zc=some Ro:=Ac (by kernel_rfl)
abbrev gU:=tr [(3,8)] false [] 0 Proofs.Tryz.f99
def WG:=BA gU
theorem AAD:gU=some WG:=Ac (by kernel_rfl)
abbrev dO:=tr [(8,8),(13,17),(19,21)] false [] 0 Proofs.Tryz.f100
def PY:=BA dO
theorem xX:dO=some PY:=Ac (by kernel_rfl)
abbrev iE:=tr [(8,8),(13,17),(19,22)] false [] 0 Proofs.Tryz.f108
def Qr:=BA iE
theorem AAa:iE=some Qr:=Ac (by kernel_rfl)
abbrev OW:=tr [(5,7)] false [] 0 Proofs.Tryz.f110
def F7:=BA OW
theorem XD:OW=some F7:=Ac (by kernel_rfl)
abbrev lU:=tr [(3,22)] false [] 0 Proofs.Tryz.f114
def SX:=BA lU
theorem ABL:lU=some SX:=Ac (by kernel_rfl)
abbrev ACw:=tr [(3,22)] false [] 0 Proofs.Tryz.f115
def aS:=BA ACw
theorem AID:ACw=some aS:=Ac (by kernel_rfl)
abbrev Qy:=tr [(6,6),(10,15),(17,18)] false [] 0 Proofs.Tryz.f122
def Ho:=BA Qy
theorem ZX:Qy=some Ho:=Ac (by kernel_rfl)
abbrev OU:=tr [(6,9),(11,11),(15,15),(25,25)] false [(6,Np 9)] 0 Proofs.Tryz.f123
def F6:=BA OU
theorem Wu:OU=some F6:=Ac (by kernel_rfl)
abbrev XK:=tr [(13,13),(16,32),(52,53),(67,67),(69,74),(100,102),(104,123),(125,127),(129,152),(154,155),(157,162),(179,179),(181,182),(184,189),(198,198),(200,202),(204,225)] false [(8,Np 20),(10,Np 14),(14,qB [0,1,2,3,4,5,6,7,8,9,13,10,11,12,14]),(15,qB [0,1,2,4,5,6,3,7,8,9,10]),(27,qB [0,1,3,4,5,2,6,7,8]),(28,qB [0,1,3,4,5,2,6,7,8]),(33,qB [0,1,3,4,5,2,6,7,8])] 0 Proofs.Tryz.f124
def Ku:=BA XK
theorem lX:XK=some Ku:=Ac (by kernel_rfl)
abbrev WM:=tr [(9,12),(17,18),(34,41),(43,51)] false [(5,Np 15)] 0 Proofs.Tryz.f125
def KD:=BA WM
theorem iJ:WM=some KD:=Ac (by kernel_rfl)
abbrev YM:=tr [(7,7),(9,13),(16,22),(24,32),(34,34),(44,51),(53,53),(64,64),(73,77)] false [(10,qB [0,2,4,5,9,1,3,6,7,8,10]),(14,qB [0,2,3,5,1,4,6,7,8,9]),(16,qB [0,2,3,1,4,5,6,7]),(19,qB [0,1,5,7,2,3,4,6,8,9,10,11])] 0 Proofs.Tryz.f126
def ML:=BA YM
theorem nY:YM=some ML:=Ac (by kernel_rfl)
abbrev Xn:=tr [(7,7),(9,16),(19,24),(26,34),(36,44),(46,46),(61,74),(76,82)] false [(12,qB [0,1,5,8,2,3,4,6,7,9,10,11,12,13]),(19,qB [0,1,5,8,2,3,4,6,7,9,10,11,12,13])] 0 Proofs.Tryz.f127
def Ky:=BA Xn
theorem jy:Xn=some Ky:=Ac (by kernel_rfl)
abbrev qM:=tr [(7,10)] false [] 0 Proofs.Tryz.f128
def Uu:=BA qM
theorem ACe:qM=some Uu:=Ac (by kernel_rfl)
abbrev Xg:=tr [(8,14),(16,20)] false [] 0 Proofs.Tryz.f129
def LM:=BA Xg
theorem kQ:Xg=some LM:=Ac (by kernel_rfl)
abbrev qP:=tr [(3,4)] false [] 0 Proofs.Tryz.f130
def Ug:=BA qP
theorem ACW:qP=some Ug:=Ac (by kernel_rfl)
abbrev Va:=tr [(10,34),(36,42),(44,45),(47,53),(55,65),(68,74),(76,91)] false [] 0 Proofs.Tryz.f131
def Jj:=BA Va
theorem fG:Va=some Jj:=Ac (by kernel_rfl)
abbrev Jv:=tr [(4,8)] false [] 0 Proofs.Tryz.f132
def EW:=BA Jv
theorem RV:Jv=some EW:=Ac (by kernel_rfl)
abbrev dW:=tr [(5,9)] false [] 0 Proofs.Tryz.f133
def PL:=BA dW
theorem yF:dW=some PL:=Ac (by kernel_rfl)
abbrev JR:=tr [(4,8)] false [] 0 Proofs.Tryz.f134
def ED:=BA JR
theorem QZ:JR=some ED:=Ac (by kernel_rfl)
abbrev dL:=tr [(5,9)] false [] 0 Proofs.Tryz.f135
def PS:=BA dL
theorem xq:dL=some PS:=Ac (by kernel_rfl)
abbrev Fp:=tr [(10,13),(19,29),(31,31)] false [] 0 Proofs.Tryz.f136
def CX:=BA Fp
theorem KY:Fp=some CX:=Ac (by kernel_rfl)
abbrev qK:=tr [(5,37)] false [] 0 Proofs.Tryz.f137
def Um:=BA qK
theorem ACH:qK=some Um:=Ac (by kernel_rfl)
abbrev yj:=tr [(1,1)] false [] 0 Proofs.Tryz.f141
def XG:=BA yj
theorem AFc:yj=some XG:=Ac (by kernel_rfl)
abbrev qL:=tr [(3,5)] false [] 0 Proofs.Tryz.f142
def UY:=BA qL
theorem ACg:qL=some UY:=Ac (by kernel_rfl)
abbrev fU:=tr [] false [(1,Np 12)] 0 Proofs.Tryz.f143
def QO:=BA fU
theorem AAN:fU=some QO:=Ac (by kernel_rfl)
abbrev dJ:=tr [(8,10),(15,19),(21,24)] false [] 0 Proofs.Tryz.f145
def PU:=BA dJ
theorem yK:dJ=some PU:=Ac (by kernel_rfl)
abbrev ZL:=tr [(9,9),(11,20)] false [] 0 Proofs.Tryz.f146
def NR:=BA ZL
theorem rF:ZL=some NR:=Ac (by kernel_rfl)
abbrev Za:=tr [(8,12),(14,14),(33,38),(43,45),(53,58),(60,65),(68,68),(82,90),(92,92),(113,114),(120,129),(131,131),(149,149),(155,155)] false [(3,qB [0,1,2,3,4,5,6,7,8,9,10,11,13,14,12,15,16,17]),(9,Np 8),(16,qB [0,1,2,3,4,5,6,7,8,10,11,9,12]),(19,qB [0,1,2,3,4,5,6,7,8,9,10,11,13,14,15,16,17,12,18]),(22,Np 5),(26,qB [0,1,2,3,4,5,6,7,8,9,10,11,13,14,12,15]),(28,Np 5)] 0 Proofs.Tryz.f147
def Nc:=BA Za
theorem rC:Za=some Nc:=Ac (by kernel_rfl)
abbrev lZ:=tr [(24,39),(61,61),(73,75)] false [(0,Np 10),(1,Np 10),(4,Np 11),(5,Np 11),(7,Np 11)] 0 Proofs.Tryz.f153
def Xw:=BA lZ
theorem ABF:lZ=some Xw:=Ac (by kernel_rfl)
abbrev kC:=tr [(9,13),(24,24),(37,37),(49,52),(54,59),(61,68),(70,70),(72,85),(87,87),(89,92),(94,109)] false [(2,Np 10),(4,Np 10),(8,Np 11)] 0 Proofs.Tryz.f154
def Xe:=BA kC
theorem ABY:kC=some Xe:=Ac (by kernel_rfl)
abbrev aF:=tr [(10,14),(16,18)] false [] 0 Proofs.Tryz.f155
def TQ:=BA aF
theorem vZ:aF=some TQ:=Ac (by kernel_rfl)
abbrev aJ:=tr [(5,17),(19,23)] false [] 0 Proofs.Tryz.f156
def UD:=BA aJ
theorem uh:aJ=some UD:=Ac (by kernel_rfl)
abbrev aA:=tr [(5,8),(10,11)] false [] 0 Proofs.Tryz.f157
def UE:=BA aA
theorem uI:aA=some UE:=Ac (by kernel_rfl)
abbrev dY:=tr [(4,6),(8,12)] false [] 0 Proofs.Tryz.f158
def VD:=BA dY
theorem xE:dY=some VD:=Ac (by kernel_rfl)
abbrev Zy:=tr [(4,4),(6,7)] false [] 0 Proofs.Tryz.f159
def UH:=BA Zy
theorem uU:Zy=some UH:=Ac (by kernel_rfl)
abbrev gX:=tr [(11,44),(46,46)] false [] 0 Proofs.Tryz.f160
def Vw:=BA gX
theorem zU:gX=some Vw:=Ac (by kernel_rfl)
abbrev YS:=tr [(6,12),(17,34),(36,38),(40,44),(54,62)] false [(2,qB [0,1,4,2,3,5]),(11,qB [0,1,2,4,3,5,6,7,8,9])] 0 Proofs.Tryz.f161
def QV:=BA YS
theorem mg:YS=some QV:=Ac (by kernel_rfl)
abbrev Zt:=tr [(4,8),(10,21)] false [] 0 Proofs.Tryz.f162
def UA:=BA Zt
theorem wL:Zt=some UA:=Ac (by kernel_rfl)
abbrev Vd:=tr [(5,7)] false [] 0 Proofs.Tryz.f174
def Ji:=BA Vd
theorem eH:Vd=some Ji:=Ac (by kernel_rfl)
abbrev YR:=tr [(3,13)] false [] 0 Proofs.Tryz.f175
def MK:=BA YR
theorem pK:YR=some MK:=Ac (by kernel_rfl)
abbrev WX:=tr [] false [(1,qB [0,2,3,1,4,5])] 0 Proofs.Tryz.f176
def J8:=BA WX
theorem jJ:WX=some J8:=Ac (by kernel_rfl)
abbrev VT:=tr [(5,9)] false [] 0 Proofs.Tryz.f177
def Jh:=BA VT
theorem fE:VT=some Jh:=Ac (by kernel_rfl)
abbrev Ph:=tr [(10,12),(14,29),(31,34),(36,53),(55,62)] false [] 0 Proofs.Tryz.f178
def Gi:=BA Ph
theorem YA:Ph=some Gi:=Ac (by kernel_rfl)
abbrev O8:=tr [(10,12),(14,29),(31,34),(36,53),(55,62)] false [] 0 Proofs.Tryz.f179
def GR:=BA O8
theorem Xr:O8=some GR:=Ac (by kernel_rfl)
abbrev iG:=tr [(8,10),(15,30)] false [(3,Np 4)] 0 Proofs.Tryz.f180
def Qk:=BA iG
theorem AAR:iG=some Qk:=Ac (by kernel_rfl)
abbrev ZO:=tr [(6,10),(12,17)] false [] 0 Proofs.Tryz.f181
def Rj:=BA ZO
theorem rP:ZO=some Rj:=Ac (by kernel_rfl)
abbrev Ob:=tr [(3,3),(5,7)] false [] 0 Proofs.Tryz.f182
def F5:=BA Ob
theorem Wx:Ob=some F5:=Ac (by kernel_rfl)
abbrev Zb:=tr [(7,8),(10,11),(13,14),(16,18),(20,23),(25,27),(29,29),(40,46),(48,48),(58,64),(66,70),(72,72),(85,87),(89,89),(107,111),(113,113),(133,139),(141,141),(155,157)] false [(13,Np 10),(16,qB [0,1,2,3,4,9,5,6,7,8,10,11]),(24,qB [0,1,2,3,4,5,6,7,9,10,8,11]),(27,Np 5),(28,qB [0,1,2,3,4,5,6,7,9,10,8,11]),(31,Np 13),(32,Np 6),(35,Np 13)] 0 Proofs.Tryz.f183
def NY:=BA Zb
theorem sN:Zb=some NY:=Ac (by kernel_rfl)
abbrev YN:=tr [(13,14),(24,24)] false [(4,Np 9)] 0 Proofs.Tryz.f184
def MO:=BA YN
theorem nX:YN=some MO:=Ac (by kernel_rfl)
abbrev jm:=tr [(7,15),(26,43)] false [(3,Np 10)] 0 Proofs.Tryz.f191
def XU:=BA jm
theorem ABh:jm=some XU:=Ac (by kernel_rfl)
abbrev Zx:=tr [(5,7)] false [] 0 Proofs.Tryz.f192
def Tj:=BA Zx
theorem uo:Zx=some Tj:=Ac (by kernel_rfl)
abbrev Z4:=tr [(5,7)] false [] 0 Proofs.Tryz.f193
def TT:=BA Z4
theorem vI:Z4=some TT:=Ac (by kernel_rfl)
abbrev ADQ:=tr [(3,8)] false [] 0 Proofs.Tryz.f194
def nC:=BA ADQ
theorem AHK:ADQ=some nC:=Ac (by kernel_rfl)
abbrev qA:=tr [(33,34)] false [(2,Np 27),(4,Np 16)] 0 Proofs.Tryz.f195
def Yu:=BA qA
theorem ACj:qA=some Yu:=Ac (by kernel_rfl)
abbrev ADB:=tr [(3,16)] false [] 0 Proofs.Tryz.f196
def oO:=BA ADB
theorem AH7:ADB=some oO:=Ac (by kernel_rfl)
abbrev AC4:=tr [(3,8)] false [] 0 Proofs.Tryz.f197
def o8:=BA AC4
theorem AIE:AC4=some o8:=Ac (by kernel_rfl)
abbrev ADP:=tr [(5,25)] false [] 0 Proofs.Tryz.f198
def nK:=BA ADP
theorem AII:ADP=some nK:=Ac (by kernel_rfl)
abbrev ACu:=tr [(3,8)] false [] 0 Proofs.Tryz.f199
def mY:=BA ACu
theorem AHh:ACu=some mY:=Ac (by kernel_rfl)
abbrev ABX:=tr [(7,7),(12,20),(22,23)] false [] 0 Proofs.Tryz.f200
def jS:=BA ABX
theorem AF4:ABX=some jS:=Ac (by kernel_rfl)
abbrev Zw:=tr [(4,11),(13,21)] false [] 0 Proofs.Tryz.f201
def UK:=BA Zw
theorem tV:Zw=some UK:=Ac (by kernel_rfl)
abbrev aI:=tr [(4,6),(8,13)] false [] 0 Proofs.Tryz.f202
def TV:=BA aI
theorem uV:aI=some TV:=Ac (by kernel_rfl)
abbrev ZN:=tr [(4,14),(16,21)] true [] 250 Proofs.Tryz.f203
def Rk:=BA ZN
theorem sH:ZN=some Rk:=Ac (by kernel_rfl)
abbrev LP:=tr [(10,13),(15,17),(35,36)] false [(4,Np 17),(6,Np 18)] 0 Proofs.Tryz.f214
def Ej:=BA LP
theorem UR:LP=some Ej:=Ac (by kernel_rfl)
abbrev Om:=tr [(25,27),(29,32),(34,39),(51,57),(59,60),(77,79),(81,84),(86,91),(104,109),(111,112),(129,139),(141,150),(152,157),(172,184),(186,198),(200,212),(214,219)] false [(5,Np 11),(11,Np 18),(17,Np 12),(23,Np 18),(35,Np 14)] 0 Proofs.Tryz.f215
def Iu:=BA Om
theorem Ws:Om=some Iu:=Ac (by kernel_rfl)
abbrev KN:=tr [(10,13),(15,17),(35,36)] false [(4,Np 17),(6,Np 18)] 0 Proofs.Tryz.f216
def EX:=BA KN
theorem TI:KN=some EX:=Ac (by kernel_rfl)
abbrev Nu:=tr [(25,27),(29,32),(34,39),(51,57),(59,60),(77,79),(81,84),(86,91),(104,109),(111,112),(129,139),(141,150),(152,157),(172,184),(186,198),(200,212),(214,219)] false [(5,Np 11),(11,Np 18),(17,Np 12),(23,Np 18),(35,Np 14)] 0 Proofs.Tryz.f217
def IV:=BA Nu
theorem Vy:Nu=some IV:=Ac (by kernel_rfl)
abbrev dP:=tr [(8,17)] false [] 0 Proofs.Tryz.f218
def PO:=BA dP
theorem xB:dP=some PO:=Ac (by kernel_rfl)
abbrev ZI:=tr [(7,17),(22,24),(34,40)] false [(5,Np 10)] 0 Proofs.Tryz.f219
def Nl:=BA ZI
theorem qy:ZI=some Nl:=Ac (by kernel_rfl)
abbrev X5:=tr [(20,23),(63,66),(83,89),(118,123)] false [(0,Np 11),(2,Np 14),(3,qB [0,1,3,4,5,6,7,8,9,2,10,11]),(4,qB [0,1,2,3,4,5,6,8,9,10,11,7,12,13]),(6,qB [0,1,2,3,4,5,6,7,8,9,15,10,11,12,13,14,16,17,18]),(8,Np 10),(9,qB [0,1,2,3,4,5,6,7,8,9,10,11,12,13,14,20,15,16,17,18,19,21,22,23]),(11,Np 7),(12,Np 11)] 0 Proofs.Tryz.f220
def LH:=BA X5
theorem lN:X5=some LH:=Ac (by kernel_rfl)
abbrev Y7:=tr [(14,28),(30,33),(35,39),(47,50),(52,70),(78,81),(83,101),(134,144),(146,149),(151,162),(194,197)] false [(5,Np 7),(8,Np 7),(12,qB [0,1,8,9,10,11,12,13,14,2,3,4,5,6,7,15]),(13,qB [0,1,2,3,4,5,6,7,8,9,11,12,13,14,10,15]),(18,Np 18),(19,qB [0,1,2,3,4,5,12,13,14,15,6,7,8,9,10,11,16]),(0,Np 7)] 0 Proofs.Tryz.f221
def Nb:=BA Y7
theorem rE:Y7=some Nb:=Ac (by kernel_rfl)
abbrev Oa:=tr [(5,17)] false [] 0 Proofs.Tryz.f224
def Ip:=BA Oa
theorem Wh:Oa=some Ip:=Ac (by kernel_rfl)
abbrev OH:=tr [(5,7)] false [] 0 Proofs.Tryz.f225
def Iz:=BA OH
theorem Wl:OH=some Iz:=Ac (by kernel_rfl)
abbrev Z8:=tr [(3,13),(15,17)] false [] 0 Proofs.Tryz.f226
def Tn:=BA Z8
theorem uq:Z8=some Tn:=Ac (by kernel_rfl)
abbrev Zz:=tr [(4,13),(15,30),(32,36),(38,48),(50,56),(58,68)] false [] 0 Proofs.Tryz.f227
def Td:=BA Zz
theorem uY:Zz=some Td:=Ac (by kernel_rfl)
abbrev Pv:=tr [(12,19),(21,22),(24,57)] false [] 0 Proofs.Tryz.f246
def Je:=BA Pv
theorem YC:Pv=some Je:=Ac (by kernel_rfl)
abbrev O9:=tr [(12,19),(21,22),(24,57)] false [] 0 Proofs.Tryz.f247
def JC:=BA O9
theorem Xv:O9=some JC:=Ac (by kernel_rfl)
abbrev ZV:=tr [(10,19),(25,27),(44,44)] false [(5,qB [0,1,2,3,4,5,6,7,8,9,10,11,13,14,12,15])] 0 Proofs.Tryz.f248
def NV:=BA ZV
theorem rH:ZV=some NV:=Ac (by kernel_rfl)
abbrev YO:=tr [(1,7)] false [] 0 Proofs.Tryz.f250
def MQ:=BA YO
theorem pO:YO=some MQ:=Ac (by kernel_rfl)
abbrev aG:=tr [(3,7)] true [] 250 Proofs.Tryz.f251
def UN:=BA aG
theorem uM:aG=some UN:=Ac (by kernel_rfl)
abbrev YT:=tr [(4,24),(26,27),(29,36)] true [] 250 Proofs.Tryz.f252
def QG:=BA YT
theorem pV:YT=some QG:=Ac (by kernel_rfl)
abbrev ZP:=tr [(5,6),(15,17),(19,25),(27,40),(42,46)] false [(1,Np 10),(8,Np 16)] 0 Proofs.Tryz.f253
def Rt:=BA ZP
theorem rY:ZP=some Rt:=Ac (by kernel_rfl)
abbrev Nv:=tr [(11,12),(14,15)] false [(3,Np 24)] 0 Proofs.Tryz.f266
def IZ:=BA Nv
theorem Vs:Nv=some IZ:=Ac (by kernel_rfl)
abbrev ND:=tr [(11,12),(14,15)] false [(3,Np 24)] 0 Proofs.Tryz.f267
def Hy:=BA ND
theorem VN:ND=some Hy:=Ac (by kernel_rfl)
abbrev YQ:=tr [(11,15),(17,19),(27,27)] false [(4,Np 8)] 0 Proofs.Tryz.f268
def Qq:=BA YQ
theorem pR:YQ=some Qq:=Ac (by kernel_rfl)
abbrev YV:=tr [(2,5)] false [] 0 Proofs.Tryz.f269
def QY:=BA YV
theorem pU:YV=some QY:=Ac (by kernel_rfl)
abbrev WS:=tr [(6,10),(12,13),(23,23)] false [(5,Np 10)] 0 Proofs.Tryz.f270
def Oo:=BA WS
theorem iM:WS=some Oo:=Ac (by kernel_rfl)
abbrev Uw:=tr [(2,5)] false [] 0 Proofs.Tryz.f277
def NK:=BA Uw
theorem dD:Uw=some NK:=Ac (by kernel_rfl)
abbrev ZF:=tr [(9,12),(14,15),(25,25)] false [(4,Np 10)] 0 Proofs.Tryz.f278
def Rf:=BA ZF
theorem ru:ZF=some Rf:=Ac (by kernel_rfl)
abbrev SK:=tr [(2,6)] false [] 0 Proofs.Tryz.f279
def LX:=BA SK
theorem Zp:SK=some LX:=Ac (by kernel_rfl)
abbrev ZY:=tr [(9,15),(20,25),(27,30),(42,46),(48,51),(62,62)] true [(8,Np 15),(16,qB [0,1,2,3,6,7,4,5,8,9])] 250 Proofs.Tryz.f280
def RP:=BA ZY
theorem qo:ZY=some RP:=Ac (by kernel_rfl)
abbrev ZR:=tr [(5,14),(16,17),(24,26),(28,33)] false [(5,Np 7)] 0 Proofs.Tryz.f281
def Ru:=BA ZR
theorem rX:ZR=some Ru:=Ac (by kernel_rfl)
abbrev Zu:=tr [(5,15),(17,20),(22,26),(32,36),(42,59),(61,63),(65,67),(69,71),(73,75),(77,83),(85,95),(97,98),(100,107)] false [(8,Np 6),(11,Np 6)] 0 Proofs.Tryz.f282
def Ti:=BA Zu
theorem uN:Zu=some Ti:=Ac (by kernel_rfl)
abbrev YP:=tr [(8,8),(10,18),(20,24)] false [(6,Np 9)] 0 Proofs.Tryz.f283
def Qn:=BA YP
theorem nR:YP=some Qn:=Ac (by kernel_rfl)
abbrev Z9:=tr [(4,12),(14,15),(17,29)] false [] 0 Proofs.Tryz.f284
def Tf:=BA Z9
theorem vk:Z9=some Tf:=Ac (by kernel_rfl)
def F:T AF:=(.n none (.n none (.n none (.n none (.n none (.n none (.n none (.n (some Ky) .e .e) (.n (some XU) .e .e)) (.n none (.n (some UH) .e .e) .e)) (.n (some Bz) (.n (some PK) (.n (some QO) .e .e) .e) (.n none (.n (some MK) .e .e) .e))) (.n none (.n (some Zj) (.n (some QS) (.n (some PS) .e .e) (.n (some mY) .e .e)) .e) (.n none (.n (some CW) (.n none (.n (some LX) .e .e) .e) (.n (some Iu) .e .e)) (.n none (.n (some NY) .e .e) (.n (some JC) .e .e))))) (.n none (.n (some NU) (.n none (.n (some PX) (.n (some Jj) .e .e) (.n (some Yu) .e .e)) (.n (some WG) .e (.n (some Td) .e .e))) (.n (some Qg) (.n (some LG) (.n (some Nc) .e .e) .e) (.n (some aS) (.n (some GR) .e .e) .e))) (.n none (.n (some fQ) (.n none (.n none (.n (some Hy) .e .e) .e) (.n (some Rk) .e .e)) .e) (.n (some OQ) (.n (some CY) (.n (some TQ) (.n (some Qn) .e .e) .e) (.n (some Nl) .e .e)) (.n (some F6) .e (.n (some UN) .e .e)))))) (.n (some MN) (.n none (.n (some Si) (.n none (.n none (.n (some LM) .e .e) (.n (some TT) .e .e)) (.n (some zK) (.n (some QV) .e .e) (.n (some Iz) .e .e))) (.n none (.n none (.n (some PU) .e .e) .e) (.n none (.n (some Jh) .e .e) .e))) (.n none (.n (some S9) (.n none (.n (some Um) .e .e) (.n (some UK) .e .e)) .e) (.n none (.n none (.n (some Xw) (.n (some Ru) .e .e) .e) (.n (some IV) .e .e)) .e))) (.n (some Xd) (.n none (.n (some PE) (.n none (.n (some PL) .e .e) (.n (some o8) .e .e)) .e) (.n (some Eu) (.n (some fK) (.n none (.n (some NK) .e .e) .e) .e) (.n none (.n (some Rj) .e .e) .e))) (.n none (.n (some oH) (.n (some GY) (.n (some XG) (.n (some QY) .e .e) .e) .e) .e) (.n none (.n (some Ls) (.n (some UE) .e .e) (.n (some Nb) .e .e)) (.n (some KD) .e (.n (some Rt) .e .e))))))) (.n none (.n none (.n none (.n (some Qe) (.n none (.n none (.n (some Uu) .e .e) (.n (some Tj) .e .e)) (.n none (.n (some Vw) .e .e) (.n (some Ip) .e .e))) (.n (some Qd) (.n (some Ui) .e .e) (.n none (.n (some J8) .e .e) .e))) (.n none (.n (some xA) (.n none (.n (some CX) .e .e) (.n (some jS) .e .e)) .e) (.n none (.n (some Ud) (.n none (.n (some RP) .e .e) .e) (.n (some EX) .e .e)) (.n none (.n (some MO) .e .e) (.n (some NV) .e .e))))) (.n none (.n (some Xk) (.n (some fM) (.n (some PW) (.n (some EW) .e .e) (.n (some oO) .e .e)) (.n (some PY) .e .e)) (.n (some Sr) (.n (some Gh) .e .e) (.n none (.n (some Qk) .e .e) .e))) (.n none (.n (some LQ) (.n none (.n none (.n (some Qq) .e .e) .e) .e) (.n (some Qr) .e .e)) (.n none (.n (some OJ) (.n (some UD) (.n (some Tf) .e .e) .e) (.n (some LH) .e .e)) (.n (some Ku) .e (.n (some QG) .e .e)))))) (.n none (.n none (.n none (.n none (.n none (.n (some Ug) .e .e) (.n (some nC) .e .e)) (.n (some Ro) (.n (some UA) .e .e) (.n (some Tn) .e .e))) (.n (some NZ) (.n (some Jz) (.n (some NR) .e .e) .e) (.n (some SX) (.n (some Gi) .e .e) .e))) (.n none (.n (some Jg) (.n none (.n none (.n (some IZ) .e .e) .e) (.n (some TV) .e .e)) .e) (.n (some bG) (.n (some Uh) (.n (some Xe) (.n (some Ti) .e .e) .e) (.n (some PO) .e .e)) (.n (some Ho) .e (.n (some MQ) .e .e))))) (.n (some OO) (.n none (.n none (.n none (.n (some ED) .e .e) (.n (some nK) .e .e)) .e) (.n (some LJ) (.n (some Sv) (.n none (.n (some Rf) .e .e) .e) (.n (some Ej) .e .e)) (.n none (.n (some F5) .e .e) (.n (some Je) .e .e)))) (.n (some pI) (.n (some Gj) (.n (some Yy) (.n (some UY) (.n (some Oo) .e .e) .e) .e) (.n (some F7) (.n (some Ji) .e .e) .e)) (.n none (.n none (.n (some VD) .e .e) .e) (.n (some ML) .e .e)))))))
theorem Qj:T.get F 5=some MN:=by kernel_rfl
theorem TS:T.get F 14=some OO:=by kernel_rfl
theorem Vz:T.get F 16=some Qe:=by kernel_rfl
theorem Xu:T.get F 17=some Si:=by kernel_rfl
theorem Ri:T.get F 19=some NU:=by kernel_rfl
theorem dG:T.get F 20=some Xk:=by kernel_rfl
theorem AAc:T.get F 30=some pI:=by kernel_rfl
theorem tJ:T.get F 36=some fM:=by kernel_rfl
theorem U7:T.get F 37=some PE:=by kernel_rfl
theorem ACG:T.get F 40=some xA:=by kernel_rfl
theorem XP:T.get F 41=some S9:=by kernel_rfl
theorem OC:T.get F 42=some Jg:=by kernel_rfl
theorem uj:T.get F 43=some fQ:=by kernel_rfl
theorem Px:T.get F 44=some LQ:=by kernel_rfl
theorem zi:T.get F 45=some oH:=by kernel_rfl
theorem Ez:T.get F 46=some Gj:=by kernel_rfl
theorem DR:T.get F 47=some Bz:=by kernel_rfl
theorem V4:T.get F 48=some Qd:=by kernel_rfl
theorem RJ:T.get F 50=some NZ:=by kernel_rfl
theorem V9:T.get F 51=some Qg:=by kernel_rfl
theorem Xl:T.get F 52=some Sr:=by kernel_rfl
theorem G5:T.get F 53=some Eu:=by kernel_rfl
theorem Pz:T.get F 54=some LJ:=by kernel_rfl
theorem KL:T.get F 59=some OQ:=by kernel_rfl
theorem U6:T.get F 67=some PX:=by kernel_rfl
theorem VF:T.get F 68=some PW:=by kernel_rfl
theorem WH:T.get F 71=some QS:=by kernel_rfl
theorem JI:T.get F 77=some GY:=by kernel_rfl
theorem jI:T.get F 78=some Yy:=by kernel_rfl
theorem VA:T.get F 79=some PK:=by kernel_rfl
theorem Yn:T.get F 80=some Ui:=by kernel_rfl
theorem Ov:T.get F 82=some Jz:=by kernel_rfl
theorem P9:T.get F 83=some LG:=by kernel_rfl
theorem Ja:T.get F 84=some Gh:=by kernel_rfl
theorem vJ:T.get F 85=some fK:=by kernel_rfl
theorem X7:T.get F 86=some Sv:=by kernel_rfl
theorem Dz:T.get F 87=some CW:=by kernel_rfl
theorem Yf:T.get F 88=some Ud:=by kernel_rfl
theorem Yj:T.get F 90=some Uh:=by kernel_rfl
theorem Dx:T.get F 91=some CY:=by kernel_rfl
theorem UJ:T.get F 92=some OJ:=by kernel_rfl
theorem Ql:T.get F 93=some Ls:=by kernel_rfl
theorem VB:T.get F 100=some PY:=by kernel_rfl
theorem Vx:T.get F 108=some Qr:=by kernel_rfl
theorem I5:T.get F 110=some F7:=by kernel_rfl
theorem Xf:T.get F 114=some SX:=by kernel_rfl
theorem mX:T.get F 115=some aS:=by kernel_rfl
theorem KJ:T.get F 122=some Ho:=by kernel_rfl
theorem I7:T.get F 123=some F6:=by kernel_rfl
theorem Pm:T.get F 124=some Ku:=by kernel_rfl
theorem Ou:T.get F 125=some KD:=by kernel_rfl
theorem JH:T.get F 126=some ML:=by kernel_rfl
theorem Ik:T.get F 127=some Ky:=by kernel_rfl
theorem Yv:T.get F 128=some Uu:=by kernel_rfl
theorem Po:T.get F 129=some LM:=by kernel_rfl
theorem Yp:T.get F 130=some Ug:=by kernel_rfl
theorem Ny:T.get F 131=some Jj:=by kernel_rfl
theorem GI:T.get F 132=some EW:=by kernel_rfl
theorem VJ:T.get F 133=some PL:=by kernel_rfl
theorem FV:T.get F 134=some ED:=by kernel_rfl
theorem U5:T.get F 135=some PS:=by kernel_rfl
theorem Dw:T.get F 136=some CX:=by kernel_rfl
theorem Yi:T.get F 137=some Um:=by kernel_rfl
theorem bV:T.get F 141=some XG:=by kernel_rfl
theorem Yk:T.get F 142=some UY:=by kernel_rfl
theorem V6:T.get F 143=some QO:=by kernel_rfl
theorem VG:T.get F 145=some PU:=by kernel_rfl
theorem SE:T.get F 146=some NR:=by kernel_rfl
theorem RI:T.get F 147=some Nc:=by kernel_rfl
theorem N9:T.get F 174=some Ji:=by kernel_rfl
theorem QX:T.get F 175=some MK:=by kernel_rfl
theorem Oy:T.get F 176=some J8:=by kernel_rfl
theorem OB:T.get F 177=some Jh:=by kernel_rfl
theorem Jb:T.get F 178=some Gi:=by kernel_rfl
theorem JD:T.get F 179=some GR:=by kernel_rfl
theorem WI:T.get F 180=some Qk:=by kernel_rfl
theorem Iq:T.get F 182=some F5:=by kernel_rfl
theorem RN:T.get F 183=some NY:=by kernel_rfl
theorem QU:T.get F 184=some MO:=by kernel_rfl
theorem Gq:T.get F 214=some Ej:=by kernel_rfl
theorem Gg:T.get F 216=some EX:=by kernel_rfl
theorem U2:T.get F 218=some PO:=by kernel_rfl
theorem Rx:T.get F 219=some Nl:=by kernel_rfl
theorem Py:T.get F 220=some LH:=by kernel_rfl
theorem Df:T.get F 221=some Nb:=by kernel_rfl
theorem SC:T.get F 248=some NV:=by kernel_rfl
theorem Lr:T.get F 250=some MQ:=by kernel_rfl
abbrev Gu(n:Nat)(a:AF):Prop:=zT Go.Proofs.Tryz.prog F n a
theorem ok1{n:Nat}{a:AF}{fn:Func}{loc:Nat->Bool}{df:Bool}{ords:AJS}{dg:Nat}(hf:Go.Proofs.Tryz.prog.funcs[n]? =some fn)(ht:trF Go.Proofs.Tryz.prog loc df ords dg fn=some a)(hn:(fn.name== "runtime.NumGoroutine")=false:=by kernel_rfl)(hd:a.dg=dg:=by kernel_rfl)(hi:AKb a.dp=true:=by kernel_rfl):Gu n a:=.one hf hn ht hd hi
theorem jP:Gu 5 MN:=ok1 Proofs.Tryz.func5 oU
theorem yM:Gu 13 Xd:=ok1 Proofs.Tryz.func13 ABQ
theorem oq:Gu 14 OO:=ok1 Proofs.Tryz.func14 vT
theorem uz:Gu 16 Qe:=ok1 Proofs.Tryz.func16 AAS
theorem yP:Gu 17 Si:=ok1 Proofs.Tryz.func17 AA8
theorem lM:Gu 19 NU:=ok1 Proofs.Tryz.func19 sQ
theorem ACR:Gu 20 Xk:=ok1 Proofs.Tryz.func20 AEo
theorem AHB:Gu 30 pI:=ok1 Proofs.Tryz.func30 ALw
theorem AFq:Gu 36 fM:=ok1 Proofs.Tryz.func36 AJe
theorem sF:Gu 37 PE:=ok1 Proofs.Tryz.func37 xR
theorem ABJ:Gu 39 Zj:=ok1 Proofs.Tryz.func39 ADe
theorem AIx:Gu 40 xA:=ok1 Proofs.Tryz.func40 ANj
theorem xI:Gu 41 S9:=ok1 Proofs.Tryz.func41 AAg
theorem aZ:Gu 42 Jg:=ok1 Proofs.Tryz.func42 fH
theorem AF8:Gu 43 fQ:=ok1 Proofs.Tryz.func43 AJM
theorem fD:Gu 44 LQ:=ok1 Proofs.Tryz.func44 ku
theorem AIX:Gu 45 oH:=ok1 Proofs.Tryz.func45 AKl
theorem Wn:Gu 46 Gj:=ok1 Proofs.Tryz.func46 YD
theorem Ic:Gu 47 Bz:=ok1 Proofs.Tryz.func47 I8
theorem tY:Gu 48 Qd:=ok1 Proofs.Tryz.func48 AAL
theorem kZ:Gu 50 NZ:=ok1 Proofs.Tryz.func50 qU
theorem vH:Gu 51 Qg:=ok1 Proofs.Tryz.func51 y9
theorem xM:Gu 52 Sr:=ok1 Proofs.Tryz.func52 AA9
theorem TJ:Gu 53 Eu:=ok1 Proofs.Tryz.func53 Un
theorem eX:Gu 54 LJ:=ok1 Proofs.Tryz.func54 mF
theorem ACU:Gu 58 bG:=ok1 Proofs.Tryz.func58 AEU
theorem oW:Gu 59 OQ:=ok1 Proofs.Tryz.func59 vN
theorem qw:Gu 67 PX:=ok1 Proofs.Tryz.func67 yC
theorem qx:Gu 68 PW:=ok1 Proofs.Tryz.func68 xk
theorem uG:Gu 71 QS:=ok1 Proofs.Tryz.func71 zB
theorem V8:Gu 77 GY:=ok1 Proofs.Tryz.func77 Xj
theorem ADd:Gu 78 Yy:=ok1 Proofs.Tryz.func78 AFz
theorem ql:Gu 79 PK:=ok1 Proofs.Tryz.func79 xZ
theorem zX:Gu 80 Ui:=ok1 Proofs.Tryz.func80 ABz
theorem dV:Gu 82 Jz:=ok1 Proofs.Tryz.func82 jQ
theorem dw:Gu 83 LG:=ok1 Proofs.Tryz.func83 kK
theorem Wi:Gu 84 Gh:=ok1 Proofs.Tryz.func84 YF
theorem AFs:Gu 85 fK:=ok1 Proofs.Tryz.func85 AIt
theorem xW:Gu 86 Sv:=ok1 Proofs.Tryz.func86 ABN
theorem J5:Gu 87 CW:=ok1 Proofs.Tryz.func87 KT
theorem zW:Gu 88 Ud:=ok1 Proofs.Tryz.func88 AB6
theorem zI:Gu 90 Uh:=ok1 Proofs.Tryz.func90 ABx
theorem KF:Gu 91 CY:=ok1 Proofs.Tryz.func91 KR
theorem mQ:Gu 92 OJ:=ok1 Proofs.Tryz.func92 vK
theorem iT:Gu 93 Ls:=ok1 Proofs.Tryz.func93 pJ
theorem AHc:Gu 97 zK:=ok1 Proofs.Tryz.func97 ALs
theorem kV:Gu 98 Ro:=ok1 Proofs.Tryz.func98 rV
theorem tH:Gu 99 WG:=ok1 Proofs.Tryz.func99 AAD
theorem rG:Gu 100 PY:=ok1 Proofs.Tryz.func100 xX
theorem vO:Gu 108 Qr:=ok1 Proofs.Tryz.func108 AAa
theorem Vb:Gu 110 F7:=ok1 Proofs.Tryz.func110 XD
theorem xH:Gu 114 SX:=ok1 Proofs.Tryz.func114 ABL
theorem AEG:Gu 115 aS:=ok1 Proofs.Tryz.func115 AID
theorem X9:Gu 122 Ho:=ok1 Proofs.Tryz.func122 ZX
theorem VZ:Gu 123 F6:=ok1 Proofs.Tryz.func123 Wu
theorem fC:Gu 124 Ku:=ok1 Proofs.Tryz.func124 lX
theorem dK:Gu 125 KD:=ok1 Proofs.Tryz.func125 iJ
theorem ig:Gu 126 ML:=ok1 Proofs.Tryz.func126 nY
theorem fF:Gu 127 Ky:=ok1 Proofs.Tryz.func127 jy
theorem AAK:Gu 128 Uu:=ok1 Proofs.Tryz.func128 ACe
theorem eG:Gu 129 LM:=ok1 Proofs.Tryz.func129 kQ
theorem zS:Gu 130 Ug:=ok1 Proofs.Tryz.func130 ACW
theorem aY:Gu 131 Jj:=ok1 Proofs.Tryz.func131 fG
theorem Qp:Gu 132 EW:=ok1 Proofs.Tryz.func132 RV
theorem sD:Gu 133 PL:=ok1 Proofs.Tryz.func133 yF
theorem Pj:Gu 134 ED:=ok1 Proofs.Tryz.func134 QZ
theorem rW:Gu 135 PS:=ok1 Proofs.Tryz.func135 xq
theorem KG:Gu 136 CX:=ok1 Proofs.Tryz.func136 KY
theorem AAC:Gu 137 Um:=ok1 Proofs.Tryz.func137 ACH
theorem ACP:Gu 141 XG:=ok1 Proofs.Tryz.func141 AFc
theorem AAF:Gu 142 UY:=ok1 Proofs.Tryz.func142 ACg
theorem vC:Gu 143 QO:=ok1 Proofs.Tryz.func143 AAN
theorem rO:Gu 145 PU:=ok1 Proofs.Tryz.func145 yK
theorem kN:Gu 146 NR:=ok1 Proofs.Tryz.func146 rF
theorem lV:Gu 147 Nc:=ok1 Proofs.Tryz.func147 rC
theorem yB:Gu 153 Xw:=ok1 Proofs.Tryz.func153 ABF
theorem yO:Gu 154 Xe:=ok1 Proofs.Tryz.func154 ABY
theorem ou:Gu 155 TQ:=ok1 Proofs.Tryz.func155 vZ
theorem nN:Gu 156 UD:=ok1 Proofs.Tryz.func156 uh
theorem nM:Gu 157 UE:=ok1 Proofs.Tryz.func157 uI
theorem rJ:Gu 158 VD:=ok1 Proofs.Tryz.func158 xE
theorem nJ:Gu 159 UH:=ok1 Proofs.Tryz.func159 uU
theorem vF:Gu 160 Vw:=ok1 Proofs.Tryz.func160 zU
theorem jU:Gu 161 QV:=ok1 Proofs.Tryz.func161 mg
theorem pY:Gu 162 UA:=ok1 Proofs.Tryz.func162 wL
theorem aN:Gu 174 Ji:=ok1 Proofs.Tryz.func174 eH
theorem jD:Gu 175 MK:=ok1 Proofs.Tryz.func175 pK
theorem dZ:Gu 176 J8:=ok1 Proofs.Tryz.func176 jJ
theorem aV:Gu 177 Jh:=ok1 Proofs.Tryz.func177 fE
theorem Wv:Gu 178 Gi:=ok1 Proofs.Tryz.func178 YA
theorem WE:Gu 179 GR:=ok1 Proofs.Tryz.func179 Xr
theorem tZ:Gu 180 Qk:=ok1 Proofs.Tryz.func180 AAR
theorem jd:Gu 181 Rj:=ok1 Proofs.Tryz.func181 rP
theorem VQ:Gu 182 F5:=ok1 Proofs.Tryz.func182 Wx
theorem kX:Gu 183 NY:=ok1 Proofs.Tryz.func183 sN
theorem iK:Gu 184 MO:=ok1 Proofs.Tryz.func184 nX
theorem yN:Gu 191 XU:=ok1 Proofs.Tryz.func191 ABh
theorem pX:Gu 192 Tj:=ok1 Proofs.Tryz.func192 uo
theorem ni:Gu 193 TT:=ok1 Proofs.Tryz.func193 vI
theorem AEH:Gu 194 nC:=ok1 Proofs.Tryz.func194 AHK
theorem zx:Gu 195 Yu:=ok1 Proofs.Tryz.func195 ACj
theorem AEZ:Gu 196 oO:=ok1 Proofs.Tryz.func196 AH7
theorem AEv:Gu 197 o8:=ok1 Proofs.Tryz.func197 AIE
theorem AEs:Gu 198 nK:=ok1 Proofs.Tryz.func198 AII
theorem AEL:Gu 199 mY:=ok1 Proofs.Tryz.func199 AHh
theorem ADa:Gu 200 jS:=ok1 Proofs.Tryz.func200 AF4
theorem nG:Gu 201 UK:=ok1 Proofs.Tryz.func201 tV
theorem oM:Gu 202 TV:=ok1 Proofs.Tryz.func202 uV
theorem kM:Gu 203 Rk:=.two Proofs.Tryz.func203 (by kernel_rfl) sH (by kernel_rfl) Lr (by kernel_rfl)
theorem RX:Gu 214 Ej:=ok1 Proofs.Tryz.func214 UR
theorem VY:Gu 215 Iu:=ok1 Proofs.Tryz.func215 Ws
theorem Q7:Gu 216 EX:=ok1 Proofs.Tryz.func216 TI
theorem U3:Gu 217 IV:=ok1 Proofs.Tryz.func217 Vy
theorem qY:Gu 218 PO:=ok1 Proofs.Tryz.func218 xB
theorem kF:Gu 219 Nl:=ok1 Proofs.Tryz.func219 qy
theorem fB:Gu 220 LH:=ok1 Proofs.Tryz.func220 lN
theorem kH:Gu 221 Nb:=ok1 Proofs.Tryz.func221 rE
theorem VX:Gu 224 Ip:=ok1 Proofs.Tryz.func224 Wh
theorem VL:Gu 225 Iz:=ok1 Proofs.Tryz.func225 Wl
theorem nZ:Gu 226 Tn:=ok1 Proofs.Tryz.func226 uq
theorem og:Gu 227 Td:=ok1 Proofs.Tryz.func227 uY
theorem XA:Gu 246 Je:=ok1 Proofs.Tryz.func246 YC
theorem WC:Gu 247 JC:=ok1 Proofs.Tryz.func247 Xv
theorem lG:Gu 248 NV:=ok1 Proofs.Tryz.func248 rH
theorem jG:Gu 250 MQ:=ok1 Proofs.Tryz.func250 pO
theorem oQ:Gu 251 UN:=.two Proofs.Tryz.func251 (by kernel_rfl) uM (by kernel_rfl) Lr (by kernel_rfl)
theorem jO:Gu 252 QG:=.two Proofs.Tryz.func252 (by kernel_rfl) pV (by kernel_rfl) Lr (by kernel_rfl)
theorem kE:Gu 253 Rt:=ok1 Proofs.Tryz.func253 rY
theorem U8:Gu 266 IZ:=ok1 Proofs.Tryz.func266 Vs
theorem Us:Gu 267 Hy:=ok1 Proofs.Tryz.func267 VN
theorem jB:Gu 268 Qq:=ok1 Proofs.Tryz.func268 pR
theorem jK:Gu 269 QY:=ok1 Proofs.Tryz.func269 pU
theorem bK:Gu 270 Oo:=ok1 Proofs.Tryz.func270 iM
theorem Zg:Gu 277 NK:=ok1 Proofs.Tryz.func277 dD
theorem lK:Gu 278 Rf:=ok1 Proofs.Tryz.func278 ru
theorem Yq:Gu 279 LX:=ok1 Proofs.Tryz.func279 Zp
theorem jc:Gu 280 RP:=.two Proofs.Tryz.func280 (by kernel_rfl) qo (by kernel_rfl) Lr (by kernel_rfl)
theorem kW:Gu 281 Ru:=ok1 Proofs.Tryz.func281 rX
theorem oL:Gu 282 Ti:=ok1 Proofs.Tryz.func282 uN
theorem jL:Gu 283 Qn:=ok1 Proofs.Tryz.func283 nR
theorem nO:Gu 284 Tf:=ok1 Proofs.Tryz.func284 vk
theorem all_good:T.All (λp af=>zT Go.Proofs.Tryz.prog F p.key af) F:=(.n0 (.n0 (.n0 (.n0 (.n0 (.n0 (.n0 (.n1 fF .e .e) (.n1 yN .e .e)) (.n0 (.n1 nJ .e .e) .e)) (.n1 Ic (.n1 ql (.n1 vC .e .e) .e) (.n0 (.n1 jD .e .e) .e))) (.n0 (.n1 ABJ (.n1 uG (.n1 rW .e .e) (.n1 AEL .e .e)) .e) (.n0 (.n1 J5 (.n0 (.n1 Yq .e .e) .e) (.n1 VY .e .e)) (.n0 (.n1 kX .e .e) (.n1 WC .e .e))))) (.n0 (.n1 lM (.n0 (.n1 qw (.n1 aY .e .e) (.n1 zx .e .e)) (.n1 tH .e (.n1 og .e .e))) (.n1 vH (.n1 dw (.n1 lV .e .e) .e) (.n1 AEG (.n1 WE .e .e) .e))) (.n0 (.n1 AF8 (.n0 (.n0 (.n1 Us .e .e) .e) (.n1 kM .e .e)) .e) (.n1 oW (.n1 KF (.n1 ou (.n1 jL .e .e) .e) (.n1 kF .e .e)) (.n1 VZ .e (.n1 oQ .e .e)))))) (.n1 jP (.n0 (.n1 yP (.n0 (.n0 (.n1 eG .e .e) (.n1 ni .e .e)) (.n1 AHc (.n1 jU .e .e) (.n1 VL .e .e))) (.n0 (.n0 (.n1 rO .e .e) .e) (.n0 (.n1 aV .e .e) .e))) (.n0 (.n1 xI (.n0 (.n1 AAC .e .e) (.n1 nG .e .e)) .e) (.n0 (.n0 (.n1 yB (.n1 kW .e .e) .e) (.n1 U3 .e .e)) .e))) (.n1 yM (.n0 (.n1 sF (.n0 (.n1 sD .e .e) (.n1 AEv .e .e)) .e) (.n1 TJ (.n1 AFs (.n0 (.n1 Zg .e .e) .e) .e) (.n0 (.n1 jd .e .e) .e))) (.n0 (.n1 AIX (.n1 V8 (.n1 ACP (.n1 jK .e .e) .e) .e) .e) (.n0 (.n1 iT (.n1 nM .e .e) (.n1 kH .e .e)) (.n1 dK .e (.n1 kE .e .e))))))) (.n0 (.n0 (.n0 (.n1 uz (.n0 (.n0 (.n1 AAK .e .e) (.n1 pX .e .e)) (.n0 (.n1 vF .e .e) (.n1 VX .e .e))) (.n1 tY (.n1 zX .e .e) (.n0 (.n1 dZ .e .e) .e))) (.n0 (.n1 AIx (.n0 (.n1 KG .e .e) (.n1 ADa .e .e)) .e) (.n0 (.n1 zW (.n0 (.n1 jc .e .e) .e) (.n1 Q7 .e .e)) (.n0 (.n1 iK .e .e) (.n1 lG .e .e))))) (.n0 (.n1 ACR (.n1 AFq (.n1 qx (.n1 Qp .e .e) (.n1 AEZ .e .e)) (.n1 rG .e .e)) (.n1 xM (.n1 Wi .e .e) (.n0 (.n1 tZ .e .e) .e))) (.n0 (.n1 fD (.n0 (.n0 (.n1 jB .e .e) .e) .e) (.n1 vO .e .e)) (.n0 (.n1 mQ (.n1 nN (.n1 nO .e .e) .e) (.n1 fB .e .e)) (.n1 fC .e (.n1 jO .e .e)))))) (.n0 (.n0 (.n0 (.n0 (.n0 (.n1 zS .e .e) (.n1 AEH .e .e)) (.n1 kV (.n1 pY .e .e) (.n1 nZ .e .e))) (.n1 kZ (.n1 dV (.n1 kN .e .e) .e) (.n1 xH (.n1 Wv .e .e) .e))) (.n0 (.n1 aZ (.n0 (.n0 (.n1 U8 .e .e) .e) (.n1 oM .e .e)) .e) (.n1 ACU (.n1 zI (.n1 yO (.n1 oL .e .e) .e) (.n1 qY .e .e)) (.n1 X9 .e (.n1 jG .e .e))))) (.n1 oq (.n0 (.n0 (.n0 (.n1 Pj .e .e) (.n1 AEs .e .e)) .e) (.n1 eX (.n1 xW (.n0 (.n1 lK .e .e) .e) (.n1 RX .e .e)) (.n0 (.n1 VQ .e .e) (.n1 XA .e .e)))) (.n1 AHB (.n1 Wn (.n1 ADd (.n1 AAF (.n1 bK .e .e) .e) .e) (.n1 Vb (.n1 aN .e .e) .e)) (.n0 (.n0 (.n1 rJ .e .e) .e) (.n1 ig .e .e)))))))
theorem AVi:AGZ Go.Proofs.Tryz.prog F:=.AVx (by kernel_rfl) all_good
end Go.RL
