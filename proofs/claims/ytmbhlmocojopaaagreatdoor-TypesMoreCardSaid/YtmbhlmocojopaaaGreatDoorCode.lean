/- Part of a proof; nothing is assumed. -/
import Derived.Test.YtmbhlmocojopaaaGreatDoorEngA
import Derived.Test.YtmbhlmocojopaaaGreatDoorEngF
import Derived.Test.YtmbhlmocojopaaaGreatDoorProg
set_option linter.unusedVariables false
set_option linter.unusedSimpArgs false
noncomputable section
namespace Go.RL
open Go.DW
set_option maxRecDepth 100000
abbrev tr(l:List (Nat×Nat))(d:Bool)(o:AJZ)(g:Nat)(f:Func):Option AF:=trF Go.Proofs.Tryz.prog (inR l) d o g f
abbrev YX:=tr [(14,14),(16,32),(34,42),(47,73),(75,75)] false [] 0 Proofs.Tryz.f5
def MO:=BA YX
theorem nI:YX=some MO:=Aa (by kernel_rfl)
abbrev lN:=tr [(9,14),(25,30)] false [(4,qF [0,2,3,4,9,10,1,5,6,7,8,11,12]),(8,qF [0,2,3,4,9,10,1,5,6,7,8,11,12]),(9,Nq 25)] 0 Proofs.Tryz.f13
def XF:=BA lN
theorem ABW:lN=some XF:=Aa (by kernel_rfl)
abbrev Zw:=tr [(6,16),(46,51),(63,64),(88,90)] false [(3,Nq 11),(4,Nq 9),(5,Nq 12),(8,Nq 11),(10,Nq 12),(11,Nq 12)] 0 Proofs.Tryz.f14
def Oe:=BA Zw
theorem vw:Zw=some Oe:=Aa (by kernel_rfl)
abbrev fM:=tr [(6,6),(11,20)] false [] 0 Proofs.Tryz.f16
def QI:=BA fM
theorem AAS:fM=some QI:=Aa (by kernel_rfl)
abbrev lY:=tr [(5,30)] false [] 0 Proofs.Tryz.f17
def SX:=BA lY
theorem ABZ:lY=some SX:=Aa (by kernel_rfl)
abbrev Ze:=tr [(5,23),(25,25),(30,46),(48,48)] false [] 0 Proofs.Tryz.f19
def NV:=BA Ze
theorem rG:Ze=some NV:=Aa (by kernel_rfl)
abbrev yV:=tr [(12,18),(32,36),(43,51),(56,58),(66,71),(78,79)] false [(2,Nq 9),(3,Nq 6),(6,Nq 7),(12,Nq 8),(15,Nq 7)] 0 Proofs.Tryz.f20
def Xm:=BA yV
theorem AFY:yV=some Xm:=Aa (by kernel_rfl)
abbrev AGq:=tr [(1,1)] false [] 0 Proofs.Tryz.f30
def oG:=BA AGq
theorem AKq:AGq=some oG:=Aa (by kernel_rfl)
abbrev AEQ:=tr [(6,9),(14,15),(23,24)] false [(5,Nq 8)] 0 Proofs.Tryz.f36
def iC:=BA AEQ
theorem AIk:AEQ=some iC:=Aa (by kernel_rfl)
abbrev bV:=tr [(10,10),(13,14),(18,18),(21,31),(33,49),(51,59),(61,62),(64,66),(71,77),(79,88),(90,91),(96,105),(107,127),(129,129)] false [] 0 Proofs.Tryz.f37
def PX:=BA bV
theorem yC:bV=some PX:=Aa (by kernel_rfl)
abbrev vC:=tr [(9,9),(14,22),(24,29)] false [] 0 Proofs.Tryz.f39
def Zk:=BA vC
theorem ADf:vC=some Zk:=Aa (by kernel_rfl)
abbrev AJu:=tr [(3,4)] false [] 0 Proofs.Tryz.f40
def wW:=BA AJu
theorem AN2:AJu=some wW:=Aa (by kernel_rfl)
abbrev kV:=tr [(1,1)] false [] 0 Proofs.Tryz.f41
def SY:=BA kV
theorem AAr:kV=some SY:=Aa (by kernel_rfl)
abbrev Vb:=tr [(17,24),(26,31),(36,52),(63,63),(78,81)] false [(11,Nq 11),(13,qF [0,1,4,6,7,2,3,5,8,9,10,11,12,13,14])] 0 Proofs.Tryz.f42
def Ji:=BA Vb
theorem eF:Vb=some Ji:=Aa (by kernel_rfl)
abbrev AFA:=tr [(1,1)] false [] 0 Proofs.Tryz.f43
def fK:=BA AFA
theorem AJp:AFA=some fK:=Aa (by kernel_rfl)
abbrev Xn:=tr [(6,10),(39,52)] false [(3,Nq 28)] 0 Proofs.Tryz.f44
def LD:=BA Xn
theorem lX:Xn=some LD:=Aa (by kernel_rfl)
abbrev AGF:=tr [(14,14),(19,20),(28,30)] false [(1,qF [0,1,2,3,4,5,8,6,7,9]),(5,Nq 8)] 0 Proofs.Tryz.f45
def pR:=BA AGF
theorem ALI:AGF=some pR:=Aa (by kernel_rfl)
abbrev Pv:=tr [(6,9),(11,11),(15,15),(25,25)] false [(6,Nq 9)] 0 Proofs.Tryz.f46
def Gh:=BA Pv
theorem YF:Pv=some Gh:=Aa (by kernel_rfl)
abbrev Eh:=tr [(10,13),(19,29),(31,31)] false [] 0 Proofs.Tryz.f47
def Bz:=BA Eh
theorem I9:Eh=some Bz:=Aa (by kernel_rfl)
abbrev fO:=tr [(5,37)] false [] 0 Proofs.Tryz.f48
def QS:=BA fO
theorem zY:fO=some QS:=Aa (by kernel_rfl)
abbrev ZY:=tr [(9,14),(20,53),(55,55),(60,63),(65,66)] false [] 0 Proofs.Tryz.f50
def NZ:=BA ZY
theorem rW:ZY=some NZ:=Aa (by kernel_rfl)
abbrev gK:=tr [(8,8),(10,26)] false [] 0 Proofs.Tryz.f51
def Qe:=BA gK
theorem zQ:gK=some Qe:=Aa (by kernel_rfl)
abbrev kX:=tr [(5,30)] false [] 0 Proofs.Tryz.f52
def Sm:=BA kX
theorem ABo:kX=some Sm:=Aa (by kernel_rfl)
abbrev La:=tr [(3,3),(5,7)] false [] 0 Proofs.Tryz.f53
def Eu:=BA La
theorem Ur:La=some Eu:=Aa (by kernel_rfl)
abbrev XJ:=tr [(7,15),(20,33)] false [] 0 Proofs.Tryz.f54
def LH:=BA XJ
theorem jq:XJ=some LH:=Aa (by kernel_rfl)
abbrev yS:=tr [(8,14),(18,24),(31,32)] false [(3,Nq 4),(7,Nq 7)] 0 Proofs.Tryz.f58
def dX:=BA yS
theorem AFj:yS=some dX:=Aa (by kernel_rfl)
abbrev Zv:=tr [(12,12),(16,16),(19,24),(29,48),(52,53)] false [(8,Nq 5)] 0 Proofs.Tryz.f59
def Ol:=BA Zv
theorem uw:Zv=some Ol:=Aa (by kernel_rfl)
abbrev dR:=tr [(9,9),(11,22),(24,24),(31,31)] false [(6,[(0,.plain),(1,.plain),(2,.plain),(4,.plain),(5,.plain),(3,.plain),(6,.wr),(7,.wr)])] 0 Proofs.Tryz.f67
def PO:=BA dR
theorem xH:dR=some PO:=Aa (by kernel_rfl)
abbrev dV:=tr [(10,10),(14,14),(17,22),(27,40),(44,45)] false [(8,Nq 5)] 0 Proofs.Tryz.f68
def PL:=BA dV
theorem xK:dV=some PL:=Aa (by kernel_rfl)
abbrev gZ:=tr [(5,7)] false [] 0 Proofs.Tryz.f71
def QY:=BA gZ
theorem AAR:gZ=some QY:=Aa (by kernel_rfl)
abbrev O6:=tr [(5,8)] false [] 0 Proofs.Tryz.f77
def GX:=BA O6
theorem XK:O6=some GX:=Aa (by kernel_rfl)
abbrev ABU:=tr [(5,6),(10,10),(29,31),(35,35),(54,54)] false [(4,Nq 18),(10,Nq 18)] 0 Proofs.Tryz.f78
def Yx:=BA ABU
theorem AFy:ABU=some Yx:=Aa (by kernel_rfl)
abbrev bI:=tr [(7,7),(13,16),(18,20),(22,29),(31,31)] false [] 0 Proofs.Tryz.f79
def PN:=BA bI
theorem xJ:bI=some PN:=Aa (by kernel_rfl)
abbrev qG:=tr [(5,30)] false [] 0 Proofs.Tryz.f80
def Ul:=BA qG
theorem ACB:qG=some Ul:=Aa (by kernel_rfl)
abbrev WT:=tr [(12,19),(21,39)] false [] 0 Proofs.Tryz.f82
def KD:=BA WT
theorem iY:WT=some KD:=Aa (by kernel_rfl)
abbrev X5:=tr [(10,24),(26,26),(31,33),(38,40),(45,50),(52,68),(70,82)] false [(4,Nq 4),(6,Nq 4),(8,Nq 4)] 0 Proofs.Tryz.f83
def LM:=BA X5
theorem kJ:X5=some LM:=Aa (by kernel_rfl)
abbrev Px:=tr [(3,3),(5,7)] false [] 0 Proofs.Tryz.f84
def Gl:=BA Px
theorem YB:Px=some Gl:=Aa (by kernel_rfl)
abbrev AEz:=tr [(6,13),(18,28)] false [] 0 Proofs.Tryz.f85
def iG:=BA AEz
theorem AJf:AEz=some iG:=Aa (by kernel_rfl)
abbrev lq:=tr [(2,11)] false [] 0 Proofs.Tryz.f86
def Sv:=BA lq
theorem ABa:lq=some Sv:=Aa (by kernel_rfl)
abbrev FY:=tr [(10,13),(19,29),(31,31)] false [] 0 Proofs.Tryz.f87
def CW:=BA FY
theorem KR:FY=some CW:=Aa (by kernel_rfl)
abbrev qN:=tr [(5,44)] false [] 0 Proofs.Tryz.f88
def Uo:=BA qN
theorem ABx:qN=some Uo:=Aa (by kernel_rfl)
abbrev qE:=tr [(7,26),(28,28),(33,38),(40,40)] false [] 0 Proofs.Tryz.f90
def UY:=BA qE
theorem AB5:qE=some UY:=Aa (by kernel_rfl)
abbrev Fh:=tr [(10,13),(19,29),(31,31)] false [] 0 Proofs.Tryz.f91
def CX:=BA Fh
theorem KU:Fh=some CX:=Aa (by kernel_rfl)
abbrev aH:=tr [] false [(1,qF [0,1,2,3,4,9,5,6,7,8,10,11]),(2,Nq 18),(3,qF [0,1,2,3,4,5,6,7,8,10,11,12,13,14,15,9,16,17,18,19,20,21,22,23])] 0 Proofs.Tryz.f92
def OW:=BA aH
theorem sW:aH=some OW:=Aa (by kernel_rfl)
abbrev Ya:=tr [(9,14),(19,39)] false [] 0 Proofs.Tryz.f93
def Lu:=BA Ya
theorem o7:Ya=some Lu:=Aa (by kernel_rfl)
abbrev AGM:=tr [(8,13),(20,27),(35,40),(42,43)] false [(3,Nq 7),(8,Nq 8)] 0 Proofs.Tryz.f97
def AAH:=BA AGM
theorem AK7:AGM=some AAH:=Aa (by kernel_rfl)
abbrev ZM:=tr [(5,19),(21,32),(34,35),(37,40),(50,57),(59,61),(69,84),(86,88)] false [(11,qF [0,1,2,4,3,5,6,7,8,9]),(15,Nq 8)] 0 Proofs.Tryz.f98
def RV:=BA ZM
theorem qy:ZM=some RV:=Aa (by kernel_rfl)
abbrev gV:=tr [(3,8)] false [] 0 Proofs.Tryz.f99
def Vz:=BA gV
theorem zA:gV=some Vz:=Aa (by kernel_rfl)
abbrev bf:=tr [(8,8),(13,17),(19,21)] false [] 0 Proofs.Tryz.f100
def PW:=BA bf
theorem xI:bf=some PW:=Aa (by kernel_rfl)
abbrev fP:=tr [(8,8),(13,17),(19,22)] false [] 0 Proofs.Tryz.f108
def Qi:=BA fP
theorem zV:fP=some Qi:=Aa (by kernel_rfl)
abbrev OZ:=tr [(5,7)] false [] 0 Proofs.Tryz.f110
def Fz:=BA OZ
theorem Wj:OZ=some Fz:=Aa (by kernel_rfl)
abbrev jc:=tr [(3,22)] false [] 0 Proofs.Tryz.f114
def SN:=BA jc
theorem ABP:jc=some SN:=Aa (by kernel_rfl)
abbrev ADL:=tr [(3,22)] false [] 0 Proofs.Tryz.f115
def aO:=BA ADL
theorem AIH:ADL=some aO:=Aa (by kernel_rfl)
abbrev RF:=tr [(6,6),(10,15),(17,18)] false [] 0 Proofs.Tryz.f122
def Hq:=BA RF
theorem ZO:RF=some Hq:=Aa (by kernel_rfl)
abbrev OX:=tr [(6,9),(11,11),(15,15),(25,25)] false [(6,Nq 9)] 0 Proofs.Tryz.f123
def F7:=BA OX
theorem XA:OX=some F7:=Aa (by kernel_rfl)
abbrev X7:=tr [(13,13),(16,32),(52,53),(67,67),(69,74),(100,102),(104,123),(125,127),(129,152),(154,155),(157,162),(179,179),(181,182),(184,189),(198,198),(200,202),(204,225)] false [(8,Nq 20),(10,Nq 14),(14,qF [0,1,2,3,4,5,6,7,8,9,13,10,11,12,14]),(15,qF [0,1,2,4,5,6,3,7,8,9,10]),(27,qF [0,1,3,4,5,2,6,7,8]),(28,qF [0,1,3,4,5,2,6,7,8]),(33,qF [0,1,3,4,5,2,6,7,8])] 0 Proofs.Tryz.f124
def Kt:=BA X7
theorem jk:X7=some Kt:=Aa (by kernel_rfl)
abbrev WW:=tr [(9,12),(17,18),(34,41),(43,51)] false [(5,Nq 15)] 0 Proofs.Tryz.f125
def J9:=BA WW
theorem iL:WW=some J9:=Aa (by kernel_rfl)
abbrev YL:=tr [(7,7),(9,13),(16,22),(24,32),(34,34),(44,51),(53,53),(64,64),(73,77)] false [(10,qF [0,2,4,5,9,1,3,6,7,8,10]),(14,qF [0,2,3,5,1,4,6,7,8,9]),(16,qF [0,2,3,1,4,5,6,7]),(19,qF [0,1,5,7,2,3,4,6,8,9,10,11])] 0 Proofs.Tryz.f126
def MQ:=BA YL
theorem pY:YL=some MQ:=Aa (by kernel_rfl)
abbrev XT:=tr [(7,7),(9,16),(19,24),(26,34),(36,44),(46,46),(61,74),(76,82)] false [(12,qF [0,1,5,8,2,3,4,6,7,9,10,11,12,13]),(19,qF [0,1,5,8,2,3,4,6,7,9,10,11,12,13])] 0 Proofs.Tryz.f127
def Kz:=BA XT
theorem lH:XT=some Kz:=Aa (by kernel_rfl)
abbrev qL:=tr [(7,10)] false [] 0 Proofs.Tryz.f128
def Um:=BA qL
theorem ACb:qL=some Um:=Aa (by kernel_rfl)
abbrev XL:=tr [(8,14),(16,20)] false [] 0 Proofs.Tryz.f129
def LC:=BA XL
theorem lM:XL=some LC:=Aa (by kernel_rfl)
abbrev qQ:=tr [(3,4)] false [] 0 Proofs.Tryz.f130
def Uf:=BA qQ
theorem ACi:qQ=some Uf:=Aa (by kernel_rfl)
abbrev Vf:=tr [(10,34),(36,42),(44,45),(47,53),(55,65),(68,74),(76,91)] false [] 0 Proofs.Tryz.f131
def Jj:=BA Vf
theorem eH:Vf=some Jj:=Aa (by kernel_rfl)
abbrev Jv:=tr [(4,8)] false [] 0 Proofs.Tryz.f132
def ET:=BA Jv
theorem RN:Jv=some ET:=Aa (by kernel_rfl)
abbrev bF:=tr [(5,9)] false [] 0 Proofs.Tryz.f133
def PI:=BA bF
theorem yG:bF=some PI:=Aa (by kernel_rfl)
abbrev JU:=tr [(4,8)] false [] 0 Proofs.Tryz.f134
def EC:=BA JU
theorem Qj:JU=some EC:=Aa (by kernel_rfl)
abbrev dF:=tr [(5,9)] false [] 0 Proofs.Tryz.f135
def PE:=BA dF
theorem yB:dF=some PE:=Aa (by kernel_rfl)
abbrev FZ:=tr [(10,13),(19,29),(31,31)] false [] 0 Proofs.Tryz.f136
def CY:=BA FZ
theorem KQ:FZ=some CY:=Aa (by kernel_rfl)
abbrev qH:=tr [(5,37)] false [] 0 Proofs.Tryz.f137
def UZ:=BA qH
theorem ABu:qH=some UZ:=Aa (by kernel_rfl)
abbrev yg:=tr [(1,1)] false [] 0 Proofs.Tryz.f141
def Xl:=BA yg
theorem AE4:yg=some Xl:=Aa (by kernel_rfl)
abbrev qJ:=tr [(3,5)] false [] 0 Proofs.Tryz.f142
def Uj:=BA qJ
theorem ABs:qJ=some Uj:=Aa (by kernel_rfl)
abbrev fV:=tr [] false [(1,Nq 12)] 0 Proofs.Tryz.f143
def Qk:=BA fV
theorem AAA:fV=some Qk:=Aa (by kernel_rfl)
abbrev bM:=tr [(8,10),(15,19),(21,24)] false [] 0 Proofs.Tryz.f145
def PS:=BA bM
theorem yH:bM=some PS:=Aa (by kernel_rfl)
abbrev ZE:=tr [(9,9),(11,20)] false [] 0 Proofs.Tryz.f146
def Nj:=BA ZE
theorem rO:ZE=some Nj:=Aa (by kernel_rfl)
abbrev ZP:=tr [(8,12),(14,14),(33,38),(43,45),(53,58),(60,65),(68,68),(82,90),(92,92),(113,114),(120,129),(131,131),(149,149),(155,155)] false [(3,qF [0,1,2,3,4,5,6,7,8,9,10,11,13,14,12,15,16,17]),(9,Nq 8),(16,qF [0,1,2,3,4,5,6,7,8,10,11,9,12]),(19,qF [0,1,2,3,4,5,6,7,8,9,10,11,13,14,15,16,17,12,18]),(22,Nq 5),(26,qF [0,1,2,3,4,5,6,7,8,9,10,11,13,14,12,15]),(28,Nq 5)] 0 Proofs.Tryz.f147
def NU:=BA ZP
theorem rY:ZP=some NU:=Aa (by kernel_rfl)
abbrev kL:=tr [(24,39),(61,61),(73,75)] false [(0,Nq 10),(1,Nq 10),(4,Nq 11),(5,Nq 11),(7,Nq 11)] 0 Proofs.Tryz.f153
def Xy:=BA kL
theorem ABH:kL=some Xy:=Aa (by kernel_rfl)
abbrev kT:=tr [(9,13),(24,24),(37,37),(49,52),(54,59),(61,68),(70,70),(72,85),(87,87),(89,92),(94,109)] false [(2,Nq 10),(4,Nq 10),(8,Nq 11)] 0 Proofs.Tryz.f154
def XH:=BA kT
theorem ABc:kT=some XH:=Aa (by kernel_rfl)
abbrev Zt:=tr [(10,14),(16,18)] false [] 0 Proofs.Tryz.f155
def TQ:=BA Zt
theorem uj:Zt=some TQ:=Aa (by kernel_rfl)
abbrev Zz:=tr [(5,17),(19,23)] false [] 0 Proofs.Tryz.f156
def UE:=BA Zz
theorem tq:Zz=some UE:=Aa (by kernel_rfl)
abbrev Z9:=tr [(5,8),(10,11)] false [] 0 Proofs.Tryz.f157
def UM:=BA Z9
theorem uM:Z9=some UM:=Aa (by kernel_rfl)
abbrev bP:=tr [(4,6),(8,12)] false [] 0 Proofs.Tryz.f158
def VB:=BA bP
theorem xE:bP=some VB:=Aa (by kernel_rfl)
abbrev aA:=tr [(4,4),(6,7)] false [] 0 Proofs.Tryz.f159
def Ti:=BA aA
theorem tu:aA=some Ti:=Aa (by kernel_rfl)
abbrev iH:=tr [(11,44),(46,46)] false [] 0 Proofs.Tryz.f160
def Vw:=BA iH
theorem AAU:iH=some Vw:=Aa (by kernel_rfl)
abbrev YT:=tr [(6,12),(17,34),(36,38),(40,44),(54,62)] false [(2,qF [0,1,4,2,3,5]),(11,qF [0,1,2,4,3,5,6,7,8,9])] 0 Proofs.Tryz.f161
def Qh:=BA YT
theorem nM:YT=some Qh:=Aa (by kernel_rfl)
abbrev aK:=tr [(4,8),(10,21)] false [] 0 Proofs.Tryz.f162
def TT:=BA aK
theorem uU:aK=some TT:=Aa (by kernel_rfl)
abbrev Vh:=tr [(5,7)] false [] 0 Proofs.Tryz.f174
def Jh:=BA Vh
theorem eu:Vh=some Jh:=Aa (by kernel_rfl)
abbrev YO:=tr [(3,13)] false [] 0 Proofs.Tryz.f175
def MF:=BA YO
theorem og:YO=some MF:=Aa (by kernel_rfl)
abbrev WO:=tr [] false [(1,qF [0,2,3,1,4,5])] 0 Proofs.Tryz.f176
def KG:=BA WO
theorem jE:WO=some KG:=Aa (by kernel_rfl)
abbrev VK:=tr [(5,9)] false [] 0 Proofs.Tryz.f177
def Jg:=BA VK
theorem fA:VK=some Jg:=Aa (by kernel_rfl)
abbrev Pm:=tr [(10,12),(14,29),(31,34),(36,53),(55,62)] false [] 0 Proofs.Tryz.f178
def Gm:=BA Pm
theorem YK:Pm=some Gm:=Aa (by kernel_rfl)
abbrev O8:=tr [(10,12),(14,29),(31,34),(36,53),(55,62)] false [] 0 Proofs.Tryz.f179
def GU:=BA O8
theorem Xi:O8=some GU:=Aa (by kernel_rfl)
abbrev gQ:=tr [(8,10),(15,30)] false [(3,Nq 4)] 0 Proofs.Tryz.f180
def Qn:=BA gQ
theorem AAZ:gQ=some Qn:=Aa (by kernel_rfl)
abbrev Y7:=tr [(6,10),(12,17)] false [] 0 Proofs.Tryz.f181
def Ru:=BA Y7
theorem rU:Y7=some Ru:=Aa (by kernel_rfl)
abbrev OL:=tr [(3,3),(5,7)] false [] 0 Proofs.Tryz.f182
def F6:=BA OL
theorem Wu:OL=some F6:=Aa (by kernel_rfl)
abbrev ZT:=tr [(7,8),(10,11),(13,14),(16,18),(20,23),(25,27),(29,29),(40,46),(48,48),(58,64),(66,70),(72,72),(85,87),(89,89),(107,111),(113,113),(133,139),(141,141),(155,157)] false [(13,Nq 10),(16,qF [0,1,2,3,4,9,5,6,7,8,10,11]),(24,qF [0,1,2,3,4,5,6,7,9,10,8,11]),(27,Nq 5),(28,qF [0,1,2,3,4,5,6,7,9,10,8,11]),(31,Nq 13),(32,Nq 6),(35,Nq 13)] 0 Proofs.Tryz.f183
def NQ:=BA ZT
theorem qo:ZT=some NQ:=Aa (by kernel_rfl)
abbrev YM:=tr [(13,14),(24,24)] false [(4,Nq 9)] 0 Proofs.Tryz.f184
def L8:=BA YM
theorem pK:YM=some L8:=Aa (by kernel_rfl)
abbrev kE:=tr [(7,15),(26,43)] false [(3,Nq 10)] 0 Proofs.Tryz.f191
def Xo:=BA kE
theorem ABD:kE=some Xo:=Aa (by kernel_rfl)
abbrev aI:=tr [(5,7)] false [] 0 Proofs.Tryz.f192
def UQ:=BA aI
theorem uN:aI=some UQ:=Aa (by kernel_rfl)
abbrev aC:=tr [(5,7)] false [] 0 Proofs.Tryz.f193
def Tn:=BA aC
theorem uI:aC=some Tn:=Aa (by kernel_rfl)
abbrev ADP:=tr [(3,8)] false [] 0 Proofs.Tryz.f194
def oZ:=BA ADP
theorem AHb:ADP=some oZ:=Aa (by kernel_rfl)
abbrev qC:=tr [(33,34)] false [(2,Nq 27),(4,Nq 16)] 0 Proofs.Tryz.f195
def Yi:=BA qC
theorem ACT:qC=some Yi:=Aa (by kernel_rfl)
abbrev AC6:=tr [(3,16)] false [] 0 Proofs.Tryz.f196
def nK:=BA AC6
theorem AHP:AC6=some nK:=Aa (by kernel_rfl)
abbrev ADA:=tr [(3,8)] false [] 0 Proofs.Tryz.f197
def nV:=BA ADA
theorem AHk:ADA=some nV:=Aa (by kernel_rfl)
abbrev ADE:=tr [(5,25)] false [] 0 Proofs.Tryz.f198
def oP:=BA ADE
theorem AHY:ADE=some oP:=Aa (by kernel_rfl)
abbrev ADH:=tr [(3,8)] false [] 0 Proofs.Tryz.f199
def ny:=BA ADH
theorem AHu:ADH=some ny:=Aa (by kernel_rfl)
abbrev AAw:=tr [(7,7),(12,20),(22,23)] false [] 0 Proofs.Tryz.f200
def jA:=BA AAw
theorem AFn:AAw=some jA:=Aa (by kernel_rfl)
abbrev Zx:=tr [(4,11),(13,21)] false [] 0 Proofs.Tryz.f201
def UH:=BA Zx
theorem tH:Zx=some UH:=Aa (by kernel_rfl)
abbrev Zr:=tr [(4,6),(8,13)] false [] 0 Proofs.Tryz.f202
def UA:=BA Zr
theorem wI:Zr=some UA:=Aa (by kernel_rfl)
abbrev ZK:=tr [(4,14),(16,21)] true [] 250 Proofs.Tryz.f203
def Ry:=BA ZK
theorem qU:ZK=some Ry:=Aa (by kernel_rfl)
abbrev Kv:=tr [(10,13),(15,17),(35,36)] false [(4,Nq 17),(6,Nq 18)] 0 Proofs.Tryz.f214
def Ed:=BA Kv
theorem UC:Kv=some Ed:=Aa (by kernel_rfl)
abbrev Oa:=tr [(25,27),(29,32),(34,39),(51,57),(59,60),(77,79),(81,84),(86,91),(104,109),(111,112),(129,139),(141,150),(152,157),(172,184),(186,198),(200,212),(214,219)] false [(5,Nq 11),(11,Nq 18),(17,Nq 12),(23,Nq 18),(35,Nq 14)] 0 Proofs.Tryz.f215
def I4:=BA Oa
theorem Ws:Oa=some I4:=Aa (by kernel_rfl)
abbrev KO:=tr [(10,13),(15,17),(35,36)] false [(4,Nq 17),(6,Nq 18)] 0 Proofs.Tryz.f216
def EX:=BA KO
theorem TJ:KO=some EX:=Aa (by kernel_rfl)
abbrev Nv:=tr [(25,27),(29,32),(34,39),(51,57),(59,60),(77,79),(81,84),(86,91),(104,109),(111,112),(129,139),(141,150),(152,157),(172,184),(186,198),(200,212),(214,219)] false [(5,Nq 11),(11,Nq 18),(17,Nq 12),(23,Nq 18),(35,Nq 14)] 0 Proofs.Tryz.f217
def IW:=BA Nv
theorem WJ:Nv=some IW:=Aa (by kernel_rfl)
abbrev dS:=tr [(8,17)] false [] 0 Proofs.Tryz.f218
def PV:=BA dS
theorem xO:dS=some PV:=Aa (by kernel_rfl)
abbrev Y6:=tr [(7,17),(22,24),(34,40)] false [(5,Nq 10)] 0 Proofs.Tryz.f219
def NR:=BA Y6
theorem sJ:Y6=some NR:=Aa (by kernel_rfl)
abbrev Xa:=tr [(20,23),(63,66),(83,89),(118,123)] false [(0,Nq 11),(2,Nq 14),(3,qF [0,1,3,4,5,6,7,8,9,2,10,11]),(4,qF [0,1,2,3,4,5,6,8,9,10,11,7,12,13]),(6,qF [0,1,2,3,4,5,6,7,8,9,15,10,11,12,13,14,16,17,18]),(8,Nq 10),(9,qF [0,1,2,3,4,5,6,7,8,9,10,11,12,13,14,20,15,16,17,18,19,21,22,23]),(11,Nq 7),(12,Nq 11)] 0 Proofs.Tryz.f220
def LP:=BA Xa
theorem kW:Xa=some LP:=Aa (by kernel_rfl)
abbrev ZU:=tr [(14,28),(30,33),(35,39),(47,50),(52,70),(78,81),(83,101),(134,144),(146,149),(151,162),(194,197)] false [(5,Nq 7),(8,Nq 7),(12,qF [0,1,8,9,10,11,12,13,14,2,3,4,5,6,7,15]),(13,qF [0,1,2,3,4,5,6,7,8,9,11,12,13,14,10,15]),(18,Nq 18),(19,qF [0,1,2,3,4,5,12,13,14,15,6,7,8,9,10,11,16]),(0,Nq 7)] 0 Proofs.Tryz.f221
def Nb:=BA ZU
theorem rM:ZU=some Nb:=Aa (by kernel_rfl)
abbrev OT:=tr [(5,17)] false [] 0 Proofs.Tryz.f224
def I7:=BA OT
theorem Wh:OT=some I7:=Aa (by kernel_rfl)
abbrev OI:=tr [(5,7)] false [] 0 Proofs.Tryz.f225
def Iy:=BA OI
theorem Wl:OI=some Iy:=Aa (by kernel_rfl)
abbrev aB:=tr [(3,13),(15,17)] false [] 0 Proofs.Tryz.f226
def Tv:=BA aB
theorem vF:aB=some Tv:=Aa (by kernel_rfl)
abbrev Zy:=tr [(4,13),(15,30),(32,36),(38,48),(50,56),(58,68)] false [] 0 Proofs.Tryz.f227
def UU:=BA Zy
theorem uT:Zy=some UU:=Aa (by kernel_rfl)
abbrev P7:=tr [(12,19),(21,22),(24,57)] false [] 0 Proofs.Tryz.f246
def JZ:=BA P7
theorem YE:P7=some JZ:=Aa (by kernel_rfl)
abbrev O4:=tr [(12,19),(21,22),(24,57)] false [] 0 Proofs.Tryz.f247
def JD:=BA O4
theorem Xp:O4=some JD:=Aa (by kernel_rfl)
abbrev ZV:=tr [(10,19),(25,27),(44,44)] false [(5,qF [0,1,2,3,4,5,6,7,8,9,10,11,13,14,12,15])] 0 Proofs.Tryz.f248
def NY:=BA ZV
theorem qc:ZV=some NY:=Aa (by kernel_rfl)
abbrev YP:=tr [(1,7)] false [] 0 Proofs.Tryz.f250
def MG:=BA YP
theorem oI:YP=some MG:=Aa (by kernel_rfl)
abbrev aG:=tr [(3,7)] true [] 250 Proofs.Tryz.f251
def TV:=BA aG
theorem vg:aG=some TV:=Aa (by kernel_rfl)
abbrev Yc:=tr [(4,24),(26,27),(29,36)] true [] 250 Proofs.Tryz.f252
def Qc:=BA Yc
theorem oC:Yc=some Qc:=Aa (by kernel_rfl)
abbrev Y8:=tr [(5,6),(15,17),(19,25),(27,40),(42,46)] false [(1,Nq 10),(8,Nq 16)] 0 Proofs.Tryz.f253
def RI:=BA Y8
theorem rF:Y8=some RI:=Aa (by kernel_rfl)
abbrev Ns:=tr [(11,12),(14,15)] false [(3,Nq 24)] 0 Proofs.Tryz.f266
def IY:=BA Ns
theorem WG:Ns=some IY:=Aa (by kernel_rfl)
abbrev Me:=tr [(11,12),(14,15)] false [(3,Nq 24)] 0 Proofs.Tryz.f267
def Ht:=BA Me
theorem Vd:Me=some Ht:=Aa (by kernel_rfl)
abbrev YR:=tr [(11,15),(17,19),(27,27)] false [(4,Nq 8)] 0 Proofs.Tryz.f268
def QX:=BA YR
theorem pX:YR=some QX:=Aa (by kernel_rfl)
abbrev YZ:=tr [(2,5)] false [] 0 Proofs.Tryz.f269
def QZ:=BA YZ
theorem oQ:YZ=some QZ:=Aa (by kernel_rfl)
abbrev WZ:=tr [(6,10),(12,13),(23,23)] false [(5,Nq 10)] 0 Proofs.Tryz.f270
def Ov:=BA WZ
theorem iP:WZ=some Ov:=Aa (by kernel_rfl)
abbrev Uz:=tr [(2,5)] false [] 0 Proofs.Tryz.f277
def ND:=BA Uz
theorem cu:Uz=some ND:=Aa (by kernel_rfl)
abbrev Y9:=tr [(9,12),(14,15),(25,25)] false [(4,Nq 10)] 0 Proofs.Tryz.f278
def Rf:=BA Y9
theorem qx:Y9=some Rf:=Aa (by kernel_rfl)
abbrev TF:=tr [(2,6)] false [] 0 Proofs.Tryz.f279
def LX:=BA TF
theorem Zi:TF=some LX:=Aa (by kernel_rfl)
abbrev ZF:=tr [(9,15),(20,25),(27,30),(42,46),(48,51),(62,62)] true [(8,Nq 15),(16,qF [0,1,2,3,6,7,4,5,8,9])] 250 Proofs.Tryz.f280
def RQ:=BA ZF
theorem sN:ZF=some RQ:=Aa (by kernel_rfl)
abbrev Zb:=tr [(5,14),(16,17),(24,26),(28,33)] false [(5,Nq 7)] 0 Proofs.Tryz.f281
def Rn:=BA Zb
theorem rX:Zb=some Rn:=Aa (by kernel_rfl)
abbrev aJ:=tr [(5,15),(17,20),(22,26),(32,36),(42,59),(61,63),(65,67),(69,71),(73,75),(77,83),(85,95),(97,98),(100,107)] false [(8,Nq 6),(11,Nq 6)] 0 Proofs.Tryz.f282
def UD:=BA aJ
theorem vT:aJ=some UD:=Aa (by kernel_rfl)
abbrev YS:=tr [(8,8),(10,18),(20,24)] false [(6,Nq 9)] 0 Proofs.Tryz.f283
def Qs:=BA YS
theorem ng:YS=some Qs:=Aa (by kernel_rfl)
abbrev Z5:=tr [(4,12),(14,15),(17,29)] false [] 0 Proofs.Tryz.f284
def TP:=BA Z5
theorem wB:Z5=some TP:=Aa (by kernel_rfl)
def F:T AF:=(.n none (.n none (.n none (.n none (.n none (.n none (.n none (.n (some Kz) .e .e) (.n (some Xo) .e .e)) (.n none (.n (some Ti) .e .e) .e)) (.n (some Bz) (.n (some PN) (.n (some Qk) .e .e) .e) (.n none (.n (some MF) .e .e) .e))) (.n none (.n (some Zk) (.n (some QY) (.n (some PE) .e .e) (.n (some ny) .e .e)) .e) (.n none (.n (some CW) (.n none (.n (some LX) .e .e) .e) (.n (some I4) .e .e)) (.n none (.n (some NQ) .e .e) (.n (some JD) .e .e))))) (.n none (.n (some NV) (.n none (.n (some PO) (.n (some Jj) .e .e) (.n (some Yi) .e .e)) (.n (some Vz) .e (.n (some UU) .e .e))) (.n (some Qe) (.n (some LM) (.n (some NU) .e .e) .e) (.n (some aO) (.n (some GU) .e .e) .e))) (.n none (.n (some fK) (.n none (.n none (.n (some Ht) .e .e) .e) (.n (some Ry) .e .e)) .e) (.n (some Ol) (.n (some CX) (.n (some TQ) (.n (some Qs) .e .e) .e) (.n (some NR) .e .e)) (.n (some F7) .e (.n (some TV) .e .e)))))) (.n (some MO) (.n none (.n (some SX) (.n none (.n none (.n (some LC) .e .e) (.n (some Tn) .e .e)) (.n (some AAH) (.n (some Qh) .e .e) (.n (some Iy) .e .e))) (.n none (.n none (.n (some PS) .e .e) .e) (.n none (.n (some Jg) .e .e) .e))) (.n none (.n (some SY) (.n none (.n (some UZ) .e .e) (.n (some UH) .e .e)) .e) (.n none (.n none (.n (some Xy) (.n (some Rn) .e .e) .e) (.n (some IW) .e .e)) .e))) (.n (some XF) (.n none (.n (some PX) (.n none (.n (some PI) .e .e) (.n (some nV) .e .e)) .e) (.n (some Eu) (.n (some iG) (.n none (.n (some ND) .e .e) .e) .e) (.n none (.n (some Ru) .e .e) .e))) (.n none (.n (some pR) (.n (some GX) (.n (some Xl) (.n (some QZ) .e .e) .e) .e) .e) (.n none (.n (some Lu) (.n (some UM) .e .e) (.n (some Nb) .e .e)) (.n (some J9) .e (.n (some RI) .e .e))))))) (.n none (.n none (.n none (.n (some QI) (.n none (.n none (.n (some Um) .e .e) (.n (some UQ) .e .e)) (.n none (.n (some Vw) .e .e) (.n (some I7) .e .e))) (.n (some QS) (.n (some Ul) .e .e) (.n none (.n (some KG) .e .e) .e))) (.n none (.n (some wW) (.n none (.n (some CY) .e .e) (.n (some jA) .e .e)) .e) (.n none (.n (some Uo) (.n none (.n (some RQ) .e .e) .e) (.n (some EX) .e .e)) (.n none (.n (some L8) .e .e) (.n (some NY) .e .e))))) (.n none (.n (some Xm) (.n (some iC) (.n (some PL) (.n (some ET) .e .e) (.n (some nK) .e .e)) (.n (some PW) .e .e)) (.n (some Sm) (.n (some Gl) .e .e) (.n none (.n (some Qn) .e .e) .e))) (.n none (.n (some LD) (.n none (.n none (.n (some QX) .e .e) .e) .e) (.n (some Qi) .e .e)) (.n none (.n (some OW) (.n (some UE) (.n (some TP) .e .e) .e) (.n (some LP) .e .e)) (.n (some Kt) .e (.n (some Qc) .e .e)))))) (.n none (.n none (.n none (.n none (.n none (.n (some Uf) .e .e) (.n (some oZ) .e .e)) (.n (some RV) (.n (some TT) .e .e) (.n (some Tv) .e .e))) (.n (some NZ) (.n (some KD) (.n (some Nj) .e .e) .e) (.n (some SN) (.n (some Gm) .e .e) .e))) (.n none (.n (some Ji) (.n none (.n none (.n (some IY) .e .e) .e) (.n (some UA) .e .e)) .e) (.n (some dX) (.n (some UY) (.n (some XH) (.n (some UD) .e .e) .e) (.n (some PV) .e .e)) (.n (some Hq) .e (.n (some MG) .e .e))))) (.n (some Oe) (.n none (.n none (.n none (.n (some EC) .e .e) (.n (some oP) .e .e)) .e) (.n (some LH) (.n (some Sv) (.n none (.n (some Rf) .e .e) .e) (.n (some Ed) .e .e)) (.n none (.n (some F6) .e .e) (.n (some JZ) .e .e)))) (.n (some oG) (.n (some Gh) (.n (some Yx) (.n (some Uj) (.n (some Ov) .e .e) .e) .e) (.n (some Fz) (.n (some Jh) .e .e) .e)) (.n none (.n none (.n (some VB) .e .e) .e) (.n (some MQ) .e .e)))))))
theorem Qg:T.get F 5=some MO:=by kernel_rfl
theorem Tj:T.get F 14=some Oe:=by kernel_rfl
theorem WB:T.get F 16=some QI:=by kernel_rfl
theorem XI:T.get F 17=some SX:=by kernel_rfl
theorem SE:T.get F 19=some NV:=by kernel_rfl
theorem dN:T.get F 20=some Xm:=by kernel_rfl
theorem AAY:T.get F 30=some oG:=by kernel_rfl
theorem uQ:T.get F 36=some iC:=by kernel_rfl
theorem U5:T.get F 37=some PX:=by kernel_rfl
theorem ACf:T.get F 40=some wW:=by kernel_rfl
theorem X0:T.get F 41=some SY:=by kernel_rfl
theorem N7:T.get F 42=some Ji:=by kernel_rfl
theorem sV:T.get F 43=some fK:=by kernel_rfl
theorem PZ:T.get F 44=some LD:=by kernel_rfl
theorem zT:T.get F 45=some pR:=by kernel_rfl
theorem Ez:T.get F 46=some Gh:=by kernel_rfl
theorem DR:T.get F 47=some Bz:=by kernel_rfl
theorem Vy:T.get F 48=some QS:=by kernel_rfl
theorem Ro:T.get F 50=some NZ:=by kernel_rfl
theorem V5:T.get F 51=some Qe:=by kernel_rfl
theorem Xu:T.get F 52=some Sm:=by kernel_rfl
theorem Gy:T.get F 53=some Eu:=by kernel_rfl
theorem Pq:T.get F 54=some LH:=by kernel_rfl
theorem KI:T.get F 59=some Ol:=by kernel_rfl
theorem VA:T.get F 67=some PO:=by kernel_rfl
theorem U6:T.get F 68=some PL:=by kernel_rfl
theorem Vs:T.get F 71=some QY:=by kernel_rfl
theorem JF:T.get F 77=some GX:=by kernel_rfl
theorem iU:T.get F 78=some Yx:=by kernel_rfl
theorem U7:T.get F 79=some PN:=by kernel_rfl
theorem Yd:T.get F 80=some Ul:=by kernel_rfl
theorem Oy:T.get F 82=some KD:=by kernel_rfl
theorem QB:T.get F 83=some LM:=by kernel_rfl
theorem Jf:T.get F 84=some Gl:=by kernel_rfl
theorem uG:T.get F 85=some iG:=by kernel_rfl
theorem Xe:T.get F 86=some Sv:=by kernel_rfl
theorem Dz:T.get F 87=some CW:=by kernel_rfl
theorem Yk:T.get F 88=some Uo:=by kernel_rfl
theorem Yf:T.get F 90=some UY:=by kernel_rfl
theorem Dx:T.get F 91=some CX:=by kernel_rfl
theorem TW:T.get F 92=some OW:=by kernel_rfl
theorem Qp:T.get F 93=some Lu:=by kernel_rfl
theorem VF:T.get F 100=some PW:=by kernel_rfl
theorem WE:T.get F 108=some Qi:=by kernel_rfl
theorem Iz:T.get F 110=some Fz:=by kernel_rfl
theorem XZ:T.get F 114=some SN:=by kernel_rfl
theorem nO:T.get F 115=some aO:=by kernel_rfl
theorem KJ:T.get F 122=some Hq:=by kernel_rfl
theorem Ir:T.get F 123=some F7:=by kernel_rfl
theorem Pz:T.get F 124=some Kt:=by kernel_rfl
theorem Oq:T.get F 125=some J9:=by kernel_rfl
theorem JH:T.get F 126=some MQ:=by kernel_rfl
theorem Ik:T.get F 127=some Kz:=by kernel_rfl
theorem Yg:T.get F 128=some Um:=by kernel_rfl
theorem P8:T.get F 129=some LC:=by kernel_rfl
theorem Yn:T.get F 130=some Uf:=by kernel_rfl
theorem N9:T.get F 131=some Jj:=by kernel_rfl
theorem GH:T.get F 132=some ET:=by kernel_rfl
theorem U3:T.get F 133=some PI:=by kernel_rfl
theorem FU:T.get F 134=some EC:=by kernel_rfl
theorem VJ:T.get F 135=some PE:=by kernel_rfl
theorem Dw:T.get F 136=some CY:=by kernel_rfl
theorem Yo:T.get F 137=some UZ:=by kernel_rfl
theorem bH:T.get F 141=some Xl:=by kernel_rfl
theorem Ym:T.get F 142=some Uj:=by kernel_rfl
theorem V7:T.get F 143=some Qk:=by kernel_rfl
theorem VE:T.get F 145=some PS:=by kernel_rfl
theorem Rl:T.get F 146=some Nj:=by kernel_rfl
theorem Rx:T.get F 147=some NU:=by kernel_rfl
theorem OA:T.get F 174=some Jh:=by kernel_rfl
theorem QT:T.get F 175=some MF:=by kernel_rfl
theorem Oo:T.get F 176=some KG:=by kernel_rfl
theorem OD:T.get F 177=some Jg:=by kernel_rfl
theorem Ja:T.get F 178=some Gm:=by kernel_rfl
theorem JI:T.get F 179=some GU:=by kernel_rfl
theorem V8:T.get F 180=some Qn:=by kernel_rfl
theorem Iu:T.get F 182=some F6:=by kernel_rfl
theorem Ri:T.get F 183=some NQ:=by kernel_rfl
theorem QK:T.get F 184=some L8:=by kernel_rfl
theorem Gt:T.get F 214=some Ed:=by kernel_rfl
theorem Gg:T.get F 216=some EX:=by kernel_rfl
theorem VD:T.get F 218=some PV:=by kernel_rfl
theorem SB:T.get F 219=some NR:=by kernel_rfl
theorem Py:T.get F 220=some LP:=by kernel_rfl
theorem Dh:T.get F 221=some Nb:=by kernel_rfl
theorem SA:T.get F 248=some NY:=by kernel_rfl
theorem MC:T.get F 250=some MG:=by kernel_rfl
abbrev Gu(n:Nat)(a:AF):Prop:=zS Go.Proofs.Tryz.prog F n a
theorem ok1{n:Nat}{a:AF}{fn:Func}{loc:Nat->Bool}{df:Bool}{ords:AJZ}{dg:Nat}(hf:Go.Proofs.Tryz.prog.funcs[n]? =some fn)(ht:trF Go.Proofs.Tryz.prog loc df ords dg fn=some a)(hn:(fn.name== "runtime.NumGoroutine")=false:=by kernel_rfl)(hd:a.dg=dg:=by kernel_rfl)(hi:AKs a.dp=true:=by kernel_rfl):Gu n a:=.one hf hn ht hd hi
theorem ig:Gu 5 MO:=ok1 Proofs.Tryz.func5 nI
theorem xU:Gu 13 XF:=ok1 Proofs.Tryz.func13 ABW
theorem nS:Gu 14 Oe:=ok1 Proofs.Tryz.func14 vw
theorem uH:Gu 16 QI:=ok1 Proofs.Tryz.func16 AAS
theorem xX:Gu 17 SX:=ok1 Proofs.Tryz.func17 ABZ
theorem lG:Gu 19 NV:=ok1 Proofs.Tryz.func19 rG
theorem ACa:Gu 20 Xm:=ok1 Proofs.Tryz.func20 AFY
theorem AHE:Gu 30 oG:=ok1 Proofs.Tryz.func30 AKq
theorem AF7:Gu 36 iC:=ok1 Proofs.Tryz.func36 AIk
theorem sH:Gu 37 PX:=ok1 Proofs.Tryz.func37 yC
theorem AA3:Gu 39 Zk:=ok1 Proofs.Tryz.func39 ADf
theorem AJM:Gu 40 wW:=ok1 Proofs.Tryz.func40 AN2
theorem yJ:Gu 41 SY:=ok1 Proofs.Tryz.func41 AAr
theorem aU:Gu 42 Ji:=ok1 Proofs.Tryz.func42 eF
theorem AFx:Gu 43 fK:=ok1 Proofs.Tryz.func43 AJp
theorem eP:Gu 44 LD:=ok1 Proofs.Tryz.func44 lX
theorem AIP:Gu 45 pR:=ok1 Proofs.Tryz.func45 ALI
theorem Wq:Gu 46 Gh:=ok1 Proofs.Tryz.func46 YF
theorem Ih:Gu 47 Bz:=ok1 Proofs.Tryz.func47 I9
theorem wJ:Gu 48 QS:=ok1 Proofs.Tryz.func48 zY
theorem lF:Gu 50 NZ:=ok1 Proofs.Tryz.func50 rW
theorem vX:Gu 51 Qe:=ok1 Proofs.Tryz.func51 zQ
theorem xY:Gu 52 Sm:=ok1 Proofs.Tryz.func52 ABo
theorem TM:Gu 53 Eu:=ok1 Proofs.Tryz.func53 Ur
theorem eX:Gu 54 LH:=ok1 Proofs.Tryz.func54 jq
theorem AB2:Gu 58 dX:=ok1 Proofs.Tryz.func58 AFj
theorem nJ:Gu 59 Ol:=ok1 Proofs.Tryz.func59 uw
theorem qm:Gu 67 PO:=ok1 Proofs.Tryz.func67 xH
theorem sQ:Gu 68 PL:=ok1 Proofs.Tryz.func68 xK
theorem uS:Gu 71 QY:=ok1 Proofs.Tryz.func71 AAR
theorem WH:Gu 77 GX:=ok1 Proofs.Tryz.func77 XK
theorem ADU:Gu 78 Yx:=ok1 Proofs.Tryz.func78 AFy
theorem qW:Gu 79 PN:=ok1 Proofs.Tryz.func79 xJ
theorem AAc:Gu 80 Ul:=ok1 Proofs.Tryz.func80 ACB
theorem bY:Gu 82 KD:=ok1 Proofs.Tryz.func82 iY
theorem dh:Gu 83 LM:=ok1 Proofs.Tryz.func83 kJ
theorem Wv:Gu 84 Gl:=ok1 Proofs.Tryz.func84 YB
theorem AF1:Gu 85 iG:=ok1 Proofs.Tryz.func85 AJf
theorem xZ:Gu 86 Sv:=ok1 Proofs.Tryz.func86 ABa
theorem Jz:Gu 87 CW:=ok1 Proofs.Tryz.func87 KR
theorem zM:Gu 88 Uo:=ok1 Proofs.Tryz.func88 ABx
theorem zD:Gu 90 UY:=ok1 Proofs.Tryz.func90 AB5
theorem KC:Gu 91 CX:=ok1 Proofs.Tryz.func91 KU
theorem mW:Gu 92 OW:=ok1 Proofs.Tryz.func92 sW
theorem jY:Gu 93 Lu:=ok1 Proofs.Tryz.func93 o7
theorem AHd:Gu 97 AAH:=ok1 Proofs.Tryz.func97 AK7
theorem lQ:Gu 98 RV:=ok1 Proofs.Tryz.func98 qy
theorem tX:Gu 99 Vz:=ok1 Proofs.Tryz.func99 zA
theorem rE:Gu 100 PW:=ok1 Proofs.Tryz.func100 xI
theorem wG:Gu 108 Qi:=ok1 Proofs.Tryz.func108 zV
theorem VP:Gu 110 Fz:=ok1 Proofs.Tryz.func110 Wj
theorem xM:Gu 114 SN:=ok1 Proofs.Tryz.func114 ABP
theorem AFH:Gu 115 aO:=ok1 Proofs.Tryz.func115 AIH
theorem YH:Gu 122 Hq:=ok1 Proofs.Tryz.func122 ZO
theorem VQ:Gu 123 F7:=ok1 Proofs.Tryz.func123 XA
theorem fG:Gu 124 Kt:=ok1 Proofs.Tryz.func124 jk
theorem bZ:Gu 125 J9:=ok1 Proofs.Tryz.func125 iL
theorem iq:Gu 126 MQ:=ok1 Proofs.Tryz.func126 pY
theorem dn:Gu 127 Kz:=ok1 Proofs.Tryz.func127 lH
theorem zO:Gu 128 Um:=ok1 Proofs.Tryz.func128 ACb
theorem fE:Gu 129 LC:=ok1 Proofs.Tryz.func129 lM
theorem zi:Gu 130 Uf:=ok1 Proofs.Tryz.func130 ACi
theorem aZ:Gu 131 Jj:=ok1 Proofs.Tryz.func131 eH
theorem Qr:Gu 132 ET:=ok1 Proofs.Tryz.func132 RN
theorem rP:Gu 133 PI:=ok1 Proofs.Tryz.func133 yG
theorem P9:Gu 134 EC:=ok1 Proofs.Tryz.func134 Qj
theorem ql:Gu 135 PE:=ok1 Proofs.Tryz.func135 yB
theorem J6:Gu 136 CY:=ok1 Proofs.Tryz.func136 KQ
theorem zG:Gu 137 UZ:=ok1 Proofs.Tryz.func137 ABu
theorem ABz:Gu 141 Xl:=ok1 Proofs.Tryz.func141 AE4
theorem zJ:Gu 142 Uj:=ok1 Proofs.Tryz.func142 ABs
theorem wK:Gu 143 Qk:=ok1 Proofs.Tryz.func143 AAA
theorem rV:Gu 145 PS:=ok1 Proofs.Tryz.func145 yH
theorem lC:Gu 146 Nj:=ok1 Proofs.Tryz.func146 rO
theorem kF:Gu 147 NU:=ok1 Proofs.Tryz.func147 rY
theorem xP:Gu 153 Xy:=ok1 Proofs.Tryz.func153 ABH
theorem yN:Gu 154 XH:=ok1 Proofs.Tryz.func154 ABc
theorem ou:Gu 155 TQ:=ok1 Proofs.Tryz.func155 uj
theorem pG:Gu 156 UE:=ok1 Proofs.Tryz.func156 tq
theorem nP:Gu 157 UM:=ok1 Proofs.Tryz.func157 uM
theorem sD:Gu 158 VB:=ok1 Proofs.Tryz.func158 xE
theorem oJ:Gu 159 Ti:=ok1 Proofs.Tryz.func159 tu
theorem uJ:Gu 160 Vw:=ok1 Proofs.Tryz.func160 AAU
theorem iT:Gu 161 Qh:=ok1 Proofs.Tryz.func161 nM
theorem pI:Gu 162 TT:=ok1 Proofs.Tryz.func162 uU
theorem aP:Gu 174 Jh:=ok1 Proofs.Tryz.func174 eu
theorem jK:Gu 175 MF:=ok1 Proofs.Tryz.func175 og
theorem dG:Gu 176 KG:=ok1 Proofs.Tryz.func176 jE
theorem aS:Gu 177 Jg:=ok1 Proofs.Tryz.func177 fA
theorem XB:Gu 178 Gm:=ok1 Proofs.Tryz.func178 YK
theorem Vu:Gu 179 GU:=ok1 Proofs.Tryz.func179 Xi
theorem uh:Gu 180 Qn:=ok1 Proofs.Tryz.func180 AAZ
theorem jy:Gu 181 Ru:=ok1 Proofs.Tryz.func181 rU
theorem VZ:Gu 182 F6:=ok1 Proofs.Tryz.func182 Wu
theorem kU:Gu 183 NQ:=ok1 Proofs.Tryz.func183 qo
theorem iO:Gu 184 L8:=ok1 Proofs.Tryz.func184 pK
theorem yL:Gu 191 Xo:=ok1 Proofs.Tryz.func191 ABD
theorem oL:Gu 192 UQ:=ok1 Proofs.Tryz.func192 uN
theorem pW:Gu 193 Tn:=ok1 Proofs.Tryz.func193 uI
theorem AFT:Gu 194 oZ:=ok1 Proofs.Tryz.func194 AHb
theorem AAP:Gu 195 Yi:=ok1 Proofs.Tryz.func195 ACT
theorem AEW:Gu 196 nK:=ok1 Proofs.Tryz.func196 AHP
theorem AEt:Gu 197 nV:=ok1 Proofs.Tryz.func197 AHk
theorem AEC:Gu 198 oP:=ok1 Proofs.Tryz.func198 AHY
theorem AFP:Gu 199 ny:=ok1 Proofs.Tryz.func199 AHu
theorem ADd:Gu 200 jA:=ok1 Proofs.Tryz.func200 AFn
theorem mZ:Gu 201 UH:=ok1 Proofs.Tryz.func201 tH
theorem nU:Gu 202 UA:=ok1 Proofs.Tryz.func202 wI
theorem kN:Gu 203 Ry:=.two Proofs.Tryz.func203 (by kernel_rfl) qU (by kernel_rfl) MC (by kernel_rfl)
theorem SG:Gu 214 Ed:=ok1 Proofs.Tryz.func214 UC
theorem Vg:Gu 215 I4:=ok1 Proofs.Tryz.func215 Ws
theorem Qx:Gu 216 EX:=ok1 Proofs.Tryz.func216 TJ
theorem VH:Gu 217 IW:=ok1 Proofs.Tryz.func217 WJ
theorem qZ:Gu 218 PV:=ok1 Proofs.Tryz.func218 xO
theorem jg:Gu 219 NR:=ok1 Proofs.Tryz.func219 sJ
theorem fJ:Gu 220 LP:=ok1 Proofs.Tryz.func220 kW
theorem lT:Gu 221 Nb:=ok1 Proofs.Tryz.func221 rM
theorem VO:Gu 224 I7:=ok1 Proofs.Tryz.func224 Wh
theorem VY:Gu 225 Iy:=ok1 Proofs.Tryz.func225 Wl
theorem nD:Gu 226 Tv:=ok1 Proofs.Tryz.func226 vF
theorem pU:Gu 227 UU:=ok1 Proofs.Tryz.func227 uT
theorem XD:Gu 246 JZ:=ok1 Proofs.Tryz.func246 YE
theorem Vt:Gu 247 JD:=ok1 Proofs.Tryz.func247 Xp
theorem kH:Gu 248 NY:=ok1 Proofs.Tryz.func248 qc
theorem jX:Gu 250 MG:=ok1 Proofs.Tryz.func250 oI
theorem nR:Gu 251 TV:=.two Proofs.Tryz.func251 (by kernel_rfl) vg (by kernel_rfl) MC (by kernel_rfl)
theorem iW:Gu 252 Qc:=.two Proofs.Tryz.func252 (by kernel_rfl) oC (by kernel_rfl) MC (by kernel_rfl)
theorem jr:Gu 253 RI:=ok1 Proofs.Tryz.func253 rF
theorem VI:Gu 266 IY:=ok1 Proofs.Tryz.func266 WG
theorem Un:Gu 267 Ht:=ok1 Proofs.Tryz.func267 Vd
theorem iQ:Gu 268 QX:=ok1 Proofs.Tryz.func268 pX
theorem jS:Gu 269 QZ:=ok1 Proofs.Tryz.func269 oQ
theorem dJ:Gu 270 Ov:=ok1 Proofs.Tryz.func270 iP
theorem Zn:Gu 277 ND:=ok1 Proofs.Tryz.func277 cu
theorem kD:Gu 278 Rf:=ok1 Proofs.Tryz.func278 qx
theorem Yr:Gu 279 LX:=ok1 Proofs.Tryz.func279 Zi
theorem jv:Gu 280 RQ:=.two Proofs.Tryz.func280 (by kernel_rfl) sN (by kernel_rfl) MC (by kernel_rfl)
theorem lu:Gu 281 Rn:=ok1 Proofs.Tryz.func281 rX
theorem mY:Gu 282 UD:=ok1 Proofs.Tryz.func282 vT
theorem iV:Gu 283 Qs:=ok1 Proofs.Tryz.func283 ng
theorem ni:Gu 284 TP:=ok1 Proofs.Tryz.func284 wB
theorem all_good:T.All (λp af=>zS Go.Proofs.Tryz.prog F p.key af) F:=(.n0 (.n0 (.n0 (.n0 (.n0 (.n0 (.n0 (.n1 dn .e .e) (.n1 yL .e .e)) (.n0 (.n1 oJ .e .e) .e)) (.n1 Ih (.n1 qW (.n1 wK .e .e) .e) (.n0 (.n1 jK .e .e) .e))) (.n0 (.n1 AA3 (.n1 uS (.n1 ql .e .e) (.n1 AFP .e .e)) .e) (.n0 (.n1 Jz (.n0 (.n1 Yr .e .e) .e) (.n1 Vg .e .e)) (.n0 (.n1 kU .e .e) (.n1 Vt .e .e))))) (.n0 (.n1 lG (.n0 (.n1 qm (.n1 aZ .e .e) (.n1 AAP .e .e)) (.n1 tX .e (.n1 pU .e .e))) (.n1 vX (.n1 dh (.n1 kF .e .e) .e) (.n1 AFH (.n1 Vu .e .e) .e))) (.n0 (.n1 AFx (.n0 (.n0 (.n1 Un .e .e) .e) (.n1 kN .e .e)) .e) (.n1 nJ (.n1 KC (.n1 ou (.n1 iV .e .e) .e) (.n1 jg .e .e)) (.n1 VQ .e (.n1 nR .e .e)))))) (.n1 ig (.n0 (.n1 xX (.n0 (.n0 (.n1 fE .e .e) (.n1 pW .e .e)) (.n1 AHd (.n1 iT .e .e) (.n1 VY .e .e))) (.n0 (.n0 (.n1 rV .e .e) .e) (.n0 (.n1 aS .e .e) .e))) (.n0 (.n1 yJ (.n0 (.n1 zG .e .e) (.n1 mZ .e .e)) .e) (.n0 (.n0 (.n1 xP (.n1 lu .e .e) .e) (.n1 VH .e .e)) .e))) (.n1 xU (.n0 (.n1 sH (.n0 (.n1 rP .e .e) (.n1 AEt .e .e)) .e) (.n1 TM (.n1 AF1 (.n0 (.n1 Zn .e .e) .e) .e) (.n0 (.n1 jy .e .e) .e))) (.n0 (.n1 AIP (.n1 WH (.n1 ABz (.n1 jS .e .e) .e) .e) .e) (.n0 (.n1 jY (.n1 nP .e .e) (.n1 lT .e .e)) (.n1 bZ .e (.n1 jr .e .e))))))) (.n0 (.n0 (.n0 (.n1 uH (.n0 (.n0 (.n1 zO .e .e) (.n1 oL .e .e)) (.n0 (.n1 uJ .e .e) (.n1 VO .e .e))) (.n1 wJ (.n1 AAc .e .e) (.n0 (.n1 dG .e .e) .e))) (.n0 (.n1 AJM (.n0 (.n1 J6 .e .e) (.n1 ADd .e .e)) .e) (.n0 (.n1 zM (.n0 (.n1 jv .e .e) .e) (.n1 Qx .e .e)) (.n0 (.n1 iO .e .e) (.n1 kH .e .e))))) (.n0 (.n1 ACa (.n1 AF7 (.n1 sQ (.n1 Qr .e .e) (.n1 AEW .e .e)) (.n1 rE .e .e)) (.n1 xY (.n1 Wv .e .e) (.n0 (.n1 uh .e .e) .e))) (.n0 (.n1 eP (.n0 (.n0 (.n1 iQ .e .e) .e) .e) (.n1 wG .e .e)) (.n0 (.n1 mW (.n1 pG (.n1 ni .e .e) .e) (.n1 fJ .e .e)) (.n1 fG .e (.n1 iW .e .e)))))) (.n0 (.n0 (.n0 (.n0 (.n0 (.n1 zi .e .e) (.n1 AFT .e .e)) (.n1 lQ (.n1 pI .e .e) (.n1 nD .e .e))) (.n1 lF (.n1 bY (.n1 lC .e .e) .e) (.n1 xM (.n1 XB .e .e) .e))) (.n0 (.n1 aU (.n0 (.n0 (.n1 VI .e .e) .e) (.n1 nU .e .e)) .e) (.n1 AB2 (.n1 zD (.n1 yN (.n1 mY .e .e) .e) (.n1 qZ .e .e)) (.n1 YH .e (.n1 jX .e .e))))) (.n1 nS (.n0 (.n0 (.n0 (.n1 P9 .e .e) (.n1 AEC .e .e)) .e) (.n1 eX (.n1 xZ (.n0 (.n1 kD .e .e) .e) (.n1 SG .e .e)) (.n0 (.n1 VZ .e .e) (.n1 XD .e .e)))) (.n1 AHE (.n1 Wq (.n1 ADU (.n1 zJ (.n1 dJ .e .e) .e) .e) (.n1 VP (.n1 aP .e .e) .e)) (.n0 (.n0 (.n1 sD .e .e) .e) (.n1 iq .e .e)))))))
theorem AU8:AG1 Go.Proofs.Tryz.prog F:=.AVf (by kernel_rfl) all_good
end Go.RL
