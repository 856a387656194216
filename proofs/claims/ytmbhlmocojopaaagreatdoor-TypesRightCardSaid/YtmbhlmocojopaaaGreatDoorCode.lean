/- Part of a proof; nothing is assumed. -/
import Derived.Test.YtmbhlmocojopaaaGreatDoorEngA
import Derived.Test.YtmbhlmocojopaaaGreatDoorEngF
import Derived.Test.YtmbhlmocojopaaaGreatDoorProg
set_option linter.unusedVariables false
set_option linter.unusedSimpArgs false
noncomputable section
namespace Go.RL
open Go.DK
set_option maxRecDepth 100000
abbrev tr(l:List (Nat×Nat))(d:Bool)(o:AKK)(g:Nat)(f:Func):Option AF:=trF Go.Proofs.Tryz.prog (inR l) d o g f
abbrev V8:=tr [(12,12),(14,15),(17,24),(26,27),(32,34),(42,42),(47,48),(58,61),(63,64)] false [(13,J8 7),(18,J8 10)] 0 Proofs.Tryz.f4
def LH:=BF V8
theorem lI:V8=some LH:=Ac (by kernel_rfl)
abbrev kQ:=tr [(9,14),(25,30)] false [(4,Zo [0,2,3,4,9,10,1,5,6,7,8,11,12]),(8,Zo [0,2,3,4,9,10,1,5,6,7,8,11,12]),(9,J8 25)] 0 Proofs.Tryz.f13
def Wj:=BF kQ
theorem AB2:kQ=some Wj:=Ac (by kernel_rfl)
abbrev ZF:=tr [(6,16),(46,51),(63,64),(88,90)] false [(3,J8 11),(4,J8 9),(5,J8 12),(8,J8 11),(10,J8 12),(11,J8 12)] 0 Proofs.Tryz.f14
def OD:=BF ZF
theorem wV:ZF=some OD:=Ac (by kernel_rfl)
abbrev fD:=tr [(10,12),(17,26),(28,33)] false [] 0 Proofs.Tryz.f15
def Po:=BF fD
theorem AAd:fD=some Po:=Ac (by kernel_rfl)
abbrev fF:=tr [(6,6),(11,20)] false [] 0 Proofs.Tryz.f16
def QD:=BF fF
theorem AAY:fF=some QD:=Ac (by kernel_rfl)
abbrev kY:=tr [(5,30)] false [] 0 Proofs.Tryz.f17
def Rf:=BF kY
theorem ABk:kY=some Rf:=Ac (by kernel_rfl)
abbrev RJ:=tr [(10,14),(19,21),(26,30),(32,34),(50,60),(62,71)] false [(12,J8 15)] 0 Proofs.Tryz.f18
def IB:=BF RJ
theorem Yq:RJ=some IB:=Ac (by kernel_rfl)
abbrev zy:=tr [(12,18),(32,36),(43,51),(56,58),(66,71),(78,79)] false [(2,J8 9),(3,J8 6),(6,J8 7),(12,J8 8),(15,J8 7)] 0 Proofs.Tryz.f20
def WO:=BF zy
theorem AGi:zy=some WO:=Ac (by kernel_rfl)
abbrev AHW:=tr [(1,1)] false [] 0 Proofs.Tryz.f30
def qM:=BF AHW
theorem AM4:AHW=some qM:=Ac (by kernel_rfl)
abbrev AFg:=tr [(6,9),(14,15),(23,24)] false [(5,J8 8)] 0 Proofs.Tryz.f36
def gJ:=BF AFg
theorem AKz:AFg=some gJ:=Ac (by kernel_rfl)
abbrev bC:=tr [(10,10),(13,14),(18,18),(21,31),(33,49),(51,59),(61,62),(64,66),(71,77),(79,88),(90,91),(96,105),(107,127),(129,129)] false [] 0 Proofs.Tryz.f37
def Ox:=BF bC
theorem zB:bC=some Ox:=Ac (by kernel_rfl)
abbrev vM:=tr [(9,9),(14,22),(24,29)] false [] 0 Proofs.Tryz.f39
def Y2:=BF vM
theorem AEo:vM=some Y2:=Ac (by kernel_rfl)
abbrev AKk:=tr [(3,4)] false [] 0 Proofs.Tryz.f40
def xX:=BF AKk
theorem APj:AKk=some xX:=Ac (by kernel_rfl)
abbrev mP:=tr [(1,1)] false [] 0 Proofs.Tryz.f41
def RQ:=BF mP
theorem ACi:mP=some RQ:=Ac (by kernel_rfl)
abbrev Ud:=tr [(17,24),(26,31),(36,52),(63,63),(78,81)] false [(11,J8 11),(13,Zo [0,1,4,6,7,2,3,5,8,9,10,11,12,13,14])] 0 Proofs.Tryz.f42
def Je:=BF Ud
theorem dN:Ud=some Je:=Ac (by kernel_rfl)
abbrev AGf:=tr [(1,1)] false [] 0 Proofs.Tryz.f43
def fC:=BF AGf
theorem ALs:AGf=some fC:=Ac (by kernel_rfl)
abbrev Wn:=tr [(6,10),(39,52)] false [(3,J8 28)] 0 Proofs.Tryz.f44
def LJ:=BF Wn
theorem kG:Wn=some LJ:=Ac (by kernel_rfl)
abbrev AHc:=tr [(14,14),(19,20),(28,30)] false [(1,Zo [0,1,2,3,4,5,8,6,7,9]),(5,J8 8)] 0 Proofs.Tryz.f45
def ng:=BF AHc
theorem ANT:AHc=some ng:=Ac (by kernel_rfl)
abbrev PK:=tr [(6,9),(11,11),(15,15),(25,25)] false [(6,J8 9)] 0 Proofs.Tryz.f46
def Gl:=BF PK
theorem XM:PK=some Gl:=Ac (by kernel_rfl)
abbrev Ea:=tr [(10,13),(19,29),(31,31)] false [] 0 Proofs.Tryz.f47
def CJ:=BF Ea
theorem Iw:Ea=some CJ:=Ac (by kernel_rfl)
abbrev fK:=tr [(5,37)] false [] 0 Proofs.Tryz.f48
def Pz:=BF fK
theorem ABT:fK=some Pz:=Ac (by kernel_rfl)
abbrev UO:=tr [(10,23),(25,25),(28,28),(47,47),(66,66),(81,83),(85,85),(90,94),(96,96)] false [(7,J8 18),(9,J8 18),(11,J8 15)] 0 Proofs.Tryz.f49
def JZ:=BF UO
theorem cO:UO=some JZ:=Ac (by kernel_rfl)
abbrev gQ:=tr [(8,8),(10,26)] false [] 0 Proofs.Tryz.f51
def P7:=BF gQ
theorem AAu:gQ=some P7:=Ac (by kernel_rfl)
abbrev nC:=tr [(5,30)] false [] 0 Proofs.Tryz.f52
def RH:=BF nC
theorem ACn:nC=some RH:=Ac (by kernel_rfl)
abbrev Le:=tr [(3,3),(5,7)] false [] 0 Proofs.Tryz.f53
def Eo:=BF Le
theorem TP:Le=some Eo:=Ac (by kernel_rfl)
abbrev Vx:=tr [(7,15),(20,33)] false [] 0 Proofs.Tryz.f54
def Kr:=BF Vx
theorem lV:Vx=some Kr:=Ac (by kernel_rfl)
abbrev AAB:=tr [(8,14),(18,24),(31,32)] false [(3,J8 4),(7,J8 7)] 0 Proofs.Tryz.f58
def aS:=BF AAB
theorem AGS:AAB=some aS:=Ac (by kernel_rfl)
abbrev ZQ:=tr [(12,12),(16,16),(19,24),(29,48),(52,53)] false [(8,J8 5)] 0 Proofs.Tryz.f59
def OH:=BF ZQ
theorem xM:ZQ=some OH:=Ac (by kernel_rfl)
abbrev aY:=tr [(9,9),(11,22),(24,24),(31,31)] false [(6,[(0,.plain),(1,.plain),(2,.plain),(4,.plain),(5,.plain),(3,.plain),(6,.wr),(7,.wr)])] 0 Proofs.Tryz.f67
def Oz:=BF aY
theorem zG:aY=some Oz:=Ac (by kernel_rfl)
abbrev Z9:=tr [(10,10),(14,14),(17,22),(27,40),(44,45)] false [(8,J8 5)] 0 Proofs.Tryz.f68
def Ou:=BF Z9
theorem yx:Z9=some Ou:=Ac (by kernel_rfl)
abbrev fH:=tr [(5,7)] false [] 0 Proofs.Tryz.f71
def P6:=BF fH
theorem AAN:fH=some P6:=Ac (by kernel_rfl)
abbrev Oj:=tr [(5,8)] false [] 0 Proofs.Tryz.f77
def GY:=BF Oj
theorem Wy:Oj=some GY:=Ac (by kernel_rfl)
abbrev ABe:=tr [(5,6),(10,10),(29,31),(35,35),(54,54)] false [(4,J8 18),(10,J8 18)] 0 Proofs.Tryz.f78
def YB:=BF ABe
theorem AG5:ABe=some YB:=Ac (by kernel_rfl)
abbrev aC:=tr [(7,7),(13,16),(18,20),(22,29),(31,31)] false [] 0 Proofs.Tryz.f79
def Ov:=BF aC
theorem zU:aC=some Ov:=Ac (by kernel_rfl)
abbrev rM:=tr [(5,30)] false [] 0 Proofs.Tryz.f80
def TY:=BF rM
theorem AD4:rM=some TY:=Ac (by kernel_rfl)
abbrev VH:=tr [(12,19),(21,39)] false [] 0 Proofs.Tryz.f82
def J5:=BF VH
theorem jF:VH=some J5:=Ac (by kernel_rfl)
abbrev V7:=tr [(10,24),(26,26),(31,33),(38,40),(45,50),(52,68),(70,82)] false [(4,J8 4),(6,J8 4),(8,J8 4)] 0 Proofs.Tryz.f83
def LC:=BF V7
theorem kS:V7=some LC:=Ac (by kernel_rfl)
abbrev O9:=tr [(3,3),(5,7)] false [] 0 Proofs.Tryz.f84
def Gj:=BF O9
theorem XI:O9=some Gj:=Ac (by kernel_rfl)
abbrev AGs:=tr [(6,13),(18,28)] false [] 0 Proofs.Tryz.f85
def iK:=BF AGs
theorem ALn:AGs=some iK:=Ac (by kernel_rfl)
abbrev kN:=tr [(2,11)] false [] 0 Proofs.Tryz.f86
def RZ:=BF kN
theorem ACS:kN=some RZ:=Ac (by kernel_rfl)
abbrev Fq:=tr [(10,13),(19,29),(31,31)] false [] 0 Proofs.Tryz.f87
def Cc:=BF Fq
theorem KR:Fq=some Cc:=Ac (by kernel_rfl)
abbrev qX:=tr [(5,44)] false [] 0 Proofs.Tryz.f88
def TV:=BF qX
theorem ADo:qX=some TV:=Ac (by kernel_rfl)
abbrev V9:=tr [(17,18),(23,32),(36,42),(45,47),(49,52),(54,56),(58,58),(75,78),(83,88),(93,97),(99,99),(114,114),(125,126),(142,146),(148,154),(171,171),(184,190),(192,200),(202,203),(216,226),(228,228),(242,243),(246,247),(272,291)] false [(7,J8 4),(20,Zo [0,1,2,3,4,6,7,8,9,10,11,12,13,5,14,15,16]),(26,J8 5),(30,Zo [0,1,2,3,4,5,6,7,8,10,11,9,12,13,14]),(32,Zo [0,2,3,4,5,10,11,1,6,7,8,9,12,13]),(34,Zo [0,1,2,3,4,5,6,8,9,7,10,11]),(35,J8 4),(39,Zo [0,1,2,4,5,6,9,10,11,12,13,3,7,8,14,15,16]),(41,Zo [1,2,3,4,5,6,7,8,9,0,10,11,12]),(50,J8 12),(55,Zo [0,1,2,3,4,5,6,7,9,10,8,11,12,13]),(60,Zo [1,2,3,4,5,6,7,20,21,0,8,9,10,11,12,13,14,15,16,17,18,19,22,23,24])] 0 Proofs.Tryz.f89
def Ko:=BF V9
theorem jo:V9=some Ko:=Ac (by kernel_rfl)
abbrev Fp:=tr [(10,13),(19,29),(31,31)] false [] 0 Proofs.Tryz.f91
def Ce:=BF Fp
theorem KU:Fp=some Ce:=Ac (by kernel_rfl)
abbrev ZG:=tr [] false [(1,Zo [0,1,2,3,4,9,5,6,7,8,10,11]),(2,J8 18),(3,Zo [0,1,2,3,4,5,6,7,8,10,11,12,13,14,15,9,16,17,18,19,20,21,22,23])] 0 Proofs.Tryz.f92
def OO:=BF ZG
theorem wQ:ZG=some OO:=Ac (by kernel_rfl)
abbrev Xg:=tr [(9,14),(19,39)] false [] 0 Proofs.Tryz.f93
def MF:=BF Xg
theorem pz:Xg=some MF:=Ac (by kernel_rfl)
abbrev AHr:=tr [(8,13),(20,27),(35,40),(42,43)] false [(3,J8 7),(8,J8 8)] 0 Proofs.Tryz.f97
def AA3:=BF AHr
theorem AM6:AHr=some AA3:=Ac (by kernel_rfl)
abbrev YH:=tr [(5,19),(21,32),(34,35),(37,40),(50,57),(59,61),(69,84),(86,88)] false [(11,Zo [0,1,2,4,3,5,6,7,8,9]),(15,J8 8)] 0 Proofs.Tryz.f98
def Qq:=BF YH
theorem sF:YH=some Qq:=Ac (by kernel_rfl)
abbrev iL:=tr [(3,8)] false [] 0 Proofs.Tryz.f99
def U6:=BF iL
theorem ABP:iL=some U6:=Ac (by kernel_rfl)
abbrev bM:=tr [(8,8),(13,17),(19,21)] false [] 0 Proofs.Tryz.f100
def Ot:=BF bM
theorem yw:bM=some Ot:=Ac (by kernel_rfl)
abbrev gK:=tr [(8,8),(13,17),(19,22)] false [] 0 Proofs.Tryz.f108
def Pm:=BF gK
theorem ABF:gK=some Pm:=Ac (by kernel_rfl)
abbrev OG:=tr [(5,7)] false [] 0 Proofs.Tryz.f110
def F7:=BF OG
theorem VY:OG=some F7:=Ac (by kernel_rfl)
abbrev nJ:=tr [(3,22)] false [] 0 Proofs.Tryz.f114
def RV:=BF nJ
theorem ACp:nJ=some RV:=Ac (by kernel_rfl)
abbrev AED:=tr [(3,22)] false [] 0 Proofs.Tryz.f115
def Zi:=BF AED
theorem AJo:AED=some Zi:=Ac (by kernel_rfl)
abbrev QW:=tr [(6,6),(10,15),(17,18)] false [] 0 Proofs.Tryz.f122
def G8:=BF QW
theorem YF:QW=some G8:=Ac (by kernel_rfl)
abbrev Nv:=tr [(6,9),(11,11),(15,15),(25,25)] false [(6,J8 9)] 0 Proofs.Tryz.f123
def F8:=BF Nv
theorem VX:Nv=some F8:=Ac (by kernel_rfl)
abbrev V5:=tr [(13,13),(16,32),(52,53),(67,67),(69,74),(100,102),(104,123),(125,127),(129,152),(154,155),(157,162),(179,179),(181,182),(184,189),(198,198),(200,202),(204,225)] false [(8,J8 20),(10,J8 14),(14,Zo [0,1,2,3,4,5,6,7,8,9,13,10,11,12,14]),(15,Zo [0,1,2,4,5,6,3,7,8,9,10]),(27,Zo [0,1,3,4,5,2,6,7,8]),(28,Zo [0,1,3,4,5,2,6,7,8]),(33,Zo [0,1,3,4,5,2,6,7,8])] 0 Proofs.Tryz.f124
def Ku:=BF V5
theorem ku:V5=some Ku:=Ac (by kernel_rfl)
abbrev VF:=tr [(9,12),(17,18),(34,41),(43,51)] false [(5,J8 15)] 0 Proofs.Tryz.f125
def Jy:=BF VF
theorem jG:VF=some Jy:=Ac (by kernel_rfl)
abbrev Xn:=tr [(7,7),(9,13),(16,22),(24,32),(34,34),(44,51),(53,53),(64,64),(73,77)] false [(10,Zo [0,2,4,5,9,1,3,6,7,8,10]),(14,Zo [0,2,3,5,1,4,6,7,8,9]),(16,Zo [0,2,3,1,4,5,6,7]),(19,Zo [0,1,5,7,2,3,4,6,8,9,10,11])] 0 Proofs.Tryz.f126
def MQ:=BF Xn
theorem oM:Xn=some MQ:=Ac (by kernel_rfl)
abbrev XA:=tr [(7,7),(9,16),(19,24),(26,34),(36,44),(46,46),(61,74),(76,82)] false [(12,Zo [0,1,5,8,2,3,4,6,7,9,10,11,12,13]),(19,Zo [0,1,5,8,2,3,4,6,7,9,10,11,12,13])] 0 Proofs.Tryz.f127
def LK:=BF XA
theorem mY:XA=some LK:=Ac (by kernel_rfl)
abbrev qj:=tr [(7,10)] false [] 0 Proofs.Tryz.f128
def TU:=BF qj
theorem ADZ:qj=some TU:=Ac (by kernel_rfl)
abbrev Vt:=tr [(8,14),(16,20)] false [] 0 Proofs.Tryz.f129
def Kz:=BF Vt
theorem mD:Vt=some Kz:=Ac (by kernel_rfl)
abbrev qo:=tr [(3,4)] false [] 0 Proofs.Tryz.f130
def Ti:=BF qo
theorem ADe:qo=some Ti:=Ac (by kernel_rfl)
abbrev UQ:=tr [(10,34),(36,42),(44,45),(47,53),(55,65),(68,74),(76,91)] false [] 0 Proofs.Tryz.f131
def Jc:=BF UQ
theorem dD:UQ=some Jc:=Ac (by kernel_rfl)
abbrev Js:=tr [(4,8)] false [] 0 Proofs.Tryz.f132
def ES:=BF Js
theorem Q7:Js=some ES:=Ac (by kernel_rfl)
abbrev aA:=tr [(5,9)] false [] 0 Proofs.Tryz.f133
def Oo:=BF aA
theorem y8:aA=some Oo:=Ac (by kernel_rfl)
abbrev JJ:=tr [(4,8)] false [] 0 Proofs.Tryz.f134
def ED:=BF JJ
theorem QB:JJ=some ED:=Ac (by kernel_rfl)
abbrev Zy:=tr [(5,9)] false [] 0 Proofs.Tryz.f135
def O0:=BF Zy
theorem yK:Zy=some O0:=Ac (by kernel_rfl)
abbrev Fj:=tr [(10,13),(19,29),(31,31)] false [] 0 Proofs.Tryz.f136
def Ci:=BF Fj
theorem KL:Fj=some Ci:=Ac (by kernel_rfl)
abbrev qZ:=tr [(5,37)] false [] 0 Proofs.Tryz.f137
def Td:=BF qZ
theorem AD3:qZ=some Td:=Ac (by kernel_rfl)
abbrev Ul:=tr [(14,18),(28,28)] false [(5,J8 10),(7,J8 4)] 0 Proofs.Tryz.f138
def Jd:=BF Ul
theorem dY:Ul=some Jd:=Ac (by kernel_rfl)
abbrev fE:=tr [(8,11)] false [] 0 Proofs.Tryz.f139
def QJ:=BF fE
theorem AAQ:fE=some QJ:=Ac (by kernel_rfl)
abbrev rF:=tr [(1,1)] false [] 0 Proofs.Tryz.f140
def TN:=BF rF
theorem ADI:rF=some TN:=Ac (by kernel_rfl)
abbrev zl:=tr [(1,1)] false [] 0 Proofs.Tryz.f141
def WE:=BF zl
theorem AGB:zl=some WE:=Ac (by kernel_rfl)
abbrev ql:=tr [(3,5)] false [] 0 Proofs.Tryz.f142
def Tf:=BF ql
theorem ADW:ql=some Tf:=Ac (by kernel_rfl)
abbrev fU:=tr [] false [(1,J8 12)] 0 Proofs.Tryz.f143
def P8:=BF fU
theorem ABD:fU=some P8:=Ac (by kernel_rfl)
abbrev Uc:=tr [(18,22),(24,30),(32,38),(47,52),(88,88),(90,98),(100,103),(108,110),(123,138)] false [(8,J8 8),(11,Zo [0,1,2,3,4,5,6,7,13,8,9,10,11,12,14,15,16]),(12,J8 7),(13,Zo [0,1,2,3,4,5,6,7,8,9,10,16,11,12,13,14,15,17,18,19]),(21,J8 12),(24,J8 5)] 0 Proofs.Tryz.f144
def Ja:=BF Uc
theorem cZ:Uc=some Ja:=Ac (by kernel_rfl)
abbrev Zr:=tr [(8,10),(15,19),(21,24)] false [] 0 Proofs.Tryz.f145
def Oy:=BF Zr
theorem y5:Zr=some Oy:=Ac (by kernel_rfl)
abbrev YP:=tr [(9,9),(11,20)] false [] 0 Proofs.Tryz.f146
def NV:=BF YP
theorem tK:YP=some NV:=Ac (by kernel_rfl)
abbrev YQ:=tr [(8,12),(14,14),(33,38),(43,45),(53,58),(60,65),(68,68),(82,90),(92,92),(113,114),(120,129),(131,131),(149,149),(155,155)] false [(3,Zo [0,1,2,3,4,5,6,7,8,9,10,11,13,14,12,15,16,17]),(9,J8 8),(16,Zo [0,1,2,3,4,5,6,7,8,10,11,9,12]),(19,Zo [0,1,2,3,4,5,6,7,8,9,10,11,13,14,15,16,17,12,18]),(22,J8 5),(26,Zo [0,1,2,3,4,5,6,7,8,9,10,11,13,14,12,15]),(28,J8 5)] 0 Proofs.Tryz.f147
def NZ:=BF YQ
theorem tN:YQ=some NZ:=Ac (by kernel_rfl)
abbrev nD:=tr [(24,39),(61,61),(73,75)] false [(0,J8 10),(1,J8 10),(4,J8 11),(5,J8 11),(7,J8 11)] 0 Proofs.Tryz.f153
def Wq:=BF nD
theorem ABf:nD=some Wq:=Ac (by kernel_rfl)
abbrev kC:=tr [(9,13),(24,24),(37,37),(49,52),(54,59),(61,68),(70,70),(72,85),(87,87),(89,92),(94,109)] false [(2,J8 10),(4,J8 10),(8,J8 11)] 0 Proofs.Tryz.f154
def WJ:=BF kC
theorem ACW:kC=some WJ:=Ac (by kernel_rfl)
abbrev ZO:=tr [(10,14),(16,18)] false [] 0 Proofs.Tryz.f155
def SN:=BF ZO
theorem uq:ZO=some SN:=Ac (by kernel_rfl)
abbrev Y5:=tr [(5,17),(19,23)] false [] 0 Proofs.Tryz.f156
def SV:=BF Y5
theorem wG:Y5=some SV:=Ac (by kernel_rfl)
abbrev Y6:=tr [(5,8),(10,11)] false [] 0 Proofs.Tryz.f157
def TF:=BF Y6
theorem vX:Y6=some TF:=Ac (by kernel_rfl)
abbrev ay:=tr [(4,6),(8,12)] false [] 0 Proofs.Tryz.f158
def UA:=BF ay
theorem y7:ay=some UA:=Ac (by kernel_rfl)
abbrev ZK:=tr [(4,4),(6,7)] false [] 0 Proofs.Tryz.f159
def SX:=BF ZK
theorem wu:ZK=some SX:=Ac (by kernel_rfl)
abbrev fM:=tr [(11,44),(46,46)] false [] 0 Proofs.Tryz.f160
def Ux:=BF fM
theorem AAn:fM=some Ux:=Ac (by kernel_rfl)
abbrev Xa:=tr [(6,12),(17,34),(36,38),(40,44),(54,62)] false [(2,Zo [0,1,4,2,3,5]),(11,Zo [0,1,2,4,3,5,6,7,8,9])] 0 Proofs.Tryz.f161
def QE:=BF Xa
theorem oI:Xa=some QE:=Ac (by kernel_rfl)
abbrev Y8:=tr [(4,8),(10,21)] false [] 0 Proofs.Tryz.f162
def TB:=BF Y8
theorem wR:Y8=some TB:=Ac (by kernel_rfl)
abbrev Ui:=tr [(5,7)] false [] 0 Proofs.Tryz.f174
def Jf:=BF Ui
theorem bZ:Ui=some Jf:=Ac (by kernel_rfl)
abbrev Xe:=tr [(3,13)] false [] 0 Proofs.Tryz.f175
def MO:=BF Xe
theorem pY:Xe=some MO:=Ac (by kernel_rfl)
abbrev VP:=tr [] false [(1,Zo [0,2,3,1,4,5])] 0 Proofs.Tryz.f176
def J3:=BF VP
theorem jU:VP=some J3:=Ac (by kernel_rfl)
abbrev Uo:=tr [(5,9)] false [] 0 Proofs.Tryz.f177
def Jb:=BF Uo
theorem eX:Uo=some Jb:=Ac (by kernel_rfl)
abbrev PN:=tr [(10,12),(14,29),(31,34),(36,53),(55,62)] false [] 0 Proofs.Tryz.f178
def Gm:=BF PN
theorem XG:PN=some Gm:=Ac (by kernel_rfl)
abbrev Oe:=tr [(10,12),(14,29),(31,34),(36,53),(55,62)] false [] 0 Proofs.Tryz.f179
def Gf:=BF Oe
theorem WX:Oe=some Gf:=Ac (by kernel_rfl)
abbrev gy:=tr [(8,10),(15,30)] false [(3,J8 4)] 0 Proofs.Tryz.f180
def QG:=BF gy
theorem AAM:gy=some QG:=Ac (by kernel_rfl)
abbrev Ya:=tr [(6,10),(12,17)] false [] 0 Proofs.Tryz.f181
def Qo:=BF Ya
theorem sS:Ya=some Qo:=Ac (by kernel_rfl)
abbrev OQ:=tr [(3,3),(5,7)] false [] 0 Proofs.Tryz.f182
def F9:=BF OQ
theorem Vf:OQ=some F9:=Ac (by kernel_rfl)
abbrev Yi:=tr [(7,8),(10,11),(13,14),(16,18),(20,23),(25,27),(29,29),(40,46),(48,48),(58,64),(66,70),(72,72),(85,87),(89,89),(107,111),(113,113),(133,139),(141,141),(155,157)] false [(13,J8 10),(16,Zo [0,1,2,3,4,9,5,6,7,8,10,11]),(24,Zo [0,1,2,3,4,5,6,7,9,10,8,11]),(27,J8 5),(28,Zo [0,1,2,3,4,5,6,7,9,10,8,11]),(31,J8 13),(32,J8 6),(35,J8 13)] 0 Proofs.Tryz.f183
def NW:=BF Yi
theorem tH:Yi=some NW:=Ac (by kernel_rfl)
abbrev Xp:=tr [(13,14),(24,24)] false [(4,J8 9)] 0 Proofs.Tryz.f184
def MC:=BF Xp
theorem ni:Xp=some MC:=Ac (by kernel_rfl)
abbrev kM:=tr [(7,15),(26,43)] false [(3,J8 10)] 0 Proofs.Tryz.f191
def Wh:=BF kM
theorem ACh:kM=some Wh:=Ac (by kernel_rfl)
abbrev ZN:=tr [(5,7)] false [] 0 Proofs.Tryz.f192
def SK:=BF ZN
theorem xB:ZN=some SK:=Ac (by kernel_rfl)
abbrev ZC:=tr [(5,7)] false [] 0 Proofs.Tryz.f193
def SB:=BF ZC
theorem vw:ZC=some SB:=Ac (by kernel_rfl)
abbrev AEL:=tr [(3,8)] false [] 0 Proofs.Tryz.f194
def oK:=BF AEL
theorem AJC:AEL=some oK:=Ac (by kernel_rfl)
abbrev qY:=tr [(33,34)] false [(2,J8 27),(4,J8 16)] 0 Proofs.Tryz.f195
def X4:=BF qY
theorem ADg:qY=some X4:=Ac (by kernel_rfl)
abbrev AEh:=tr [(3,16)] false [] 0 Proofs.Tryz.f196
def qI:=BF AEh
theorem AI8:AEh=some qI:=Ac (by kernel_rfl)
abbrev AEX:=tr [(3,8)] false [] 0 Proofs.Tryz.f197
def oh:=BF AEX
theorem AIy:AEX=some oh:=Ac (by kernel_rfl)
abbrev AEU:=tr [(5,25)] false [] 0 Proofs.Tryz.f198
def oH:=BF AEU
theorem AIz:AEU=some oH:=Ac (by kernel_rfl)
abbrev AEa:=tr [(3,8)] false [] 0 Proofs.Tryz.f199
def pR:=BF AEa
theorem AJn:AEa=some pR:=Ac (by kernel_rfl)
abbrev ACE:=tr [(7,7),(12,20),(22,23)] false [] 0 Proofs.Tryz.f200
def jM:=BF ACE
theorem AG6:ACE=some jM:=Ac (by kernel_rfl)
abbrev Y9:=tr [(4,11),(13,21)] false [] 0 Proofs.Tryz.f201
def Sl:=BF Y9
theorem uz:Y9=some Sl:=Ac (by kernel_rfl)
abbrev Y7:=tr [(4,6),(8,13)] false [] 0 Proofs.Tryz.f202
def TJ:=BF Y7
theorem xG:Y7=some TJ:=Ac (by kernel_rfl)
abbrev YM:=tr [(4,14),(16,21)] true [] 250 Proofs.Tryz.f203
def Qn:=BF YM
theorem sO:YM=some Qn:=Ac (by kernel_rfl)
abbrev LQ:=tr [(10,13),(15,17),(35,36)] false [(4,J8 17),(6,J8 18)] 0 Proofs.Tryz.f214
def Ed:=BF LQ
theorem TI:LQ=some Ed:=Ac (by kernel_rfl)
abbrev Nw:=tr [(25,27),(29,32),(34,39),(51,57),(59,60),(77,79),(81,84),(86,91),(104,109),(111,112),(129,139),(141,150),(152,157),(172,184),(186,198),(200,212),(214,219)] false [(5,J8 11),(11,J8 18),(17,J8 12),(23,J8 18),(35,J8 14)] 0 Proofs.Tryz.f215
def Io:=BF Nw
theorem Vb:Nw=some Io:=Ac (by kernel_rfl)
abbrev KF:=tr [(10,13),(15,17),(35,36)] false [(4,J8 17),(6,J8 18)] 0 Proofs.Tryz.f216
def EX:=BF KF
theorem Rl:KF=some EX:=Ac (by kernel_rfl)
abbrev Np:=tr [(25,27),(29,32),(34,39),(51,57),(59,60),(77,79),(81,84),(86,91),(104,109),(111,112),(129,139),(141,150),(152,157),(172,184),(186,198),(200,212),(214,219)] false [(5,J8 11),(11,J8 18),(17,J8 12),(23,J8 18),(35,J8 14)] 0 Proofs.Tryz.f217
def IL:=BF Np
theorem U5:Np=some IL:=Ac (by kernel_rfl)
abbrev aX:=tr [(8,17)] false [] 0 Proofs.Tryz.f218
def Oq:=BF aX
theorem zV:aX=some Oq:=Ac (by kernel_rfl)
abbrev Yn:=tr [(7,17),(22,24),(34,40)] false [(5,J8 10)] 0 Proofs.Tryz.f219
def NU:=BF Yn
theorem rZ:Yn=some NU:=Ac (by kernel_rfl)
abbrev WY:=tr [(20,23),(63,66),(83,89),(118,123)] false [(0,J8 11),(2,J8 14),(3,Zo [0,1,3,4,5,6,7,8,9,2,10,11]),(4,Zo [0,1,2,3,4,5,6,8,9,10,11,7,12,13]),(6,Zo [0,1,2,3,4,5,6,7,8,9,15,10,11,12,13,14,16,17,18]),(8,J8 10),(9,Zo [0,1,2,3,4,5,6,7,8,9,10,11,12,13,14,20,15,16,17,18,19,21,22,23]),(11,J8 7),(12,J8 11)] 0 Proofs.Tryz.f220
def LG:=BF WY
theorem lC:WY=some LG:=Ac (by kernel_rfl)
abbrev Yk:=tr [(14,28),(30,33),(35,39),(47,50),(52,70),(78,81),(83,101),(134,144),(146,149),(151,162),(194,197)] false [(5,J8 7),(8,J8 7),(12,Zo [0,1,8,9,10,11,12,13,14,2,3,4,5,6,7,15]),(13,Zo [0,1,2,3,4,5,6,7,8,9,11,12,13,14,10,15]),(18,J8 18),(19,Zo [0,1,2,3,4,5,12,13,14,15,6,7,8,9,10,11,16]),(0,J8 7)] 0 Proofs.Tryz.f221
def NY:=BF Yk
theorem uG:Yk=some NY:=Ac (by kernel_rfl)
abbrev N8:=tr [(5,17)] false [] 0 Proofs.Tryz.f224
def Ij:=BF N8
theorem Vp:N8=some Ij:=Ac (by kernel_rfl)
abbrev OJ:=tr [(5,7)] false [] 0 Proofs.Tryz.f225
def Ir:=BF OJ
theorem VT:OJ=some Ir:=Ac (by kernel_rfl)
abbrev ZI:=tr [(3,13),(15,17)] false [] 0 Proofs.Tryz.f226
def Si:=BF ZI
theorem wB:ZI=some Si:=Ac (by kernel_rfl)
abbrev ZP:=tr [(4,13),(15,30),(32,36),(38,48),(50,56),(58,68)] false [] 0 Proofs.Tryz.f227
def S9:=BF ZP
theorem vF:ZP=some S9:=Ac (by kernel_rfl)
abbrev O6:=tr [(12,19),(21,22),(24,57)] false [] 0 Proofs.Tryz.f246
def JV:=BF O6
theorem XJ:O6=some JV:=Ac (by kernel_rfl)
abbrev Oc:=tr [(12,19),(21,22),(24,57)] false [] 0 Proofs.Tryz.f247
def JH:=BF Oc
theorem Wv:Oc=some JH:=Ac (by kernel_rfl)
abbrev Yc:=tr [(10,19),(25,27),(44,44)] false [(5,Zo [0,1,2,3,4,5,6,7,8,9,10,11,13,14,12,15])] 0 Proofs.Tryz.f248
def NT:=BF Yc
theorem uD:Yc=some NT:=Ac (by kernel_rfl)
abbrev Xh:=tr [(1,7)] false [] 0 Proofs.Tryz.f250
def ML:=BF Xh
theorem pF:Xh=some ML:=Ac (by kernel_rfl)
abbrev ZM:=tr [(3,7)] true [] 250 Proofs.Tryz.f251
def Rx:=BF ZM
theorem wU:ZM=some Rx:=Ac (by kernel_rfl)
abbrev Xo:=tr [(4,24),(26,27),(29,36)] true [] 250 Proofs.Tryz.f252
def Pv:=BF Xo
theorem og:Xo=some Pv:=Ac (by kernel_rfl)
abbrev YK:=tr [(5,6),(15,17),(19,25),(27,40),(42,46)] false [(1,J8 10),(8,J8 16)] 0 Proofs.Tryz.f253
def Qs:=BF YK
theorem sU:YK=some Qs:=Ac (by kernel_rfl)
abbrev Nj:=tr [(11,12),(14,15)] false [(3,J8 24)] 0 Proofs.Tryz.f266
def IQ:=BF Nj
theorem U4:Nj=some IQ:=Ac (by kernel_rfl)
abbrev NC:=tr [(11,12),(14,15)] false [(3,J8 24)] 0 Proofs.Tryz.f267
def Ho:=BF NC
theorem UU:NC=some Ho:=Ac (by kernel_rfl)
abbrev XY:=tr [(11,15),(17,19),(27,27)] false [(4,J8 8)] 0 Proofs.Tryz.f268
def Pq:=BF XY
theorem qJ:XY=some Pq:=Ac (by kernel_rfl)
abbrev Xi:=tr [(2,5)] false [] 0 Proofs.Tryz.f269
def Pn:=BF Xi
theorem oW:Xi=some Pn:=Ac (by kernel_rfl)
abbrev VD:=tr [(6,10),(12,13),(23,23)] false [(5,J8 10)] 0 Proofs.Tryz.f270
def OX:=BF VD
theorem iR:VD=some OX:=Ac (by kernel_rfl)
abbrev Tq:=tr [(2,5)] false [] 0 Proofs.Tryz.f277
def NI:=BF Tq
theorem bI:Tq=some NI:=Ac (by kernel_rfl)
abbrev YR:=tr [(9,12),(14,15),(25,25)] false [(4,J8 10)] 0 Proofs.Tryz.f278
def Qy:=BF YR
theorem tY:YR=some Qy:=Ac (by kernel_rfl)
abbrev RP:=tr [(2,6)] false [] 0 Proofs.Tryz.f279
def LW:=BF RP
theorem Y3:RP=some LW:=Ac (by kernel_rfl)
abbrev YS:=tr [(9,15),(20,25),(27,30),(42,46),(48,51),(62,62)] true [(8,J8 15),(16,Zo [0,1,2,3,6,7,4,5,8,9])] 250 Proofs.Tryz.f280
def Qu:=BF YS
theorem rW:YS=some Qu:=Ac (by kernel_rfl)
abbrev Yf:=tr [(5,14),(16,17),(24,26),(28,33)] false [(5,J8 7)] 0 Proofs.Tryz.f281
def Qi:=BF Yf
theorem uF:Yf=some Qi:=Ac (by kernel_rfl)
abbrev ZL:=tr [(5,15),(17,20),(22,26),(32,36),(42,59),(61,63),(65,67),(69,71),(73,75),(77,83),(85,95),(97,98),(100,107)] false [(8,J8 6),(11,J8 6)] 0 Proofs.Tryz.f282
def SG:=BF ZL
theorem vI:ZL=some SG:=Ac (by kernel_rfl)
abbrev Xq:=tr [(8,8),(10,18),(20,24)] false [(6,J8 9)] 0 Proofs.Tryz.f283
def QF:=BF Xq
theorem qF:Xq=some QF:=Ac (by kernel_rfl)
abbrev Y4:=tr [(4,12),(14,15),(17,29)] false [] 0 Proofs.Tryz.f284
def SC:=BF Y4
theorem wO:Y4=some SC:=Ac (by kernel_rfl)
def F:T AF:=(.n none (.n none (.n none (.n none (.n (some Po) (.n none (.n none (.n (some LK) .e .e) (.n (some Wh) .e .e)) (.n none (.n (some SX) .e .e) .e)) (.n (some CJ) (.n (some Ov) (.n (some P8) .e .e) .e) (.n none (.n (some MO) .e .e) .e))) (.n none (.n (some Y2) (.n (some P6) (.n (some O0) .e .e) (.n (some pR) .e .e)) .e) (.n none (.n (some Cc) (.n none (.n (some LW) .e .e) .e) (.n (some Io) .e .e)) (.n none (.n (some NW) .e .e) (.n (some JH) .e .e))))) (.n none (.n none (.n none (.n (some Oz) (.n (some Jc) .e .e) (.n (some X4) .e .e)) (.n (some U6) .e (.n (some S9) .e .e))) (.n (some P7) (.n (some LC) (.n (some NZ) .e .e) .e) (.n (some Zi) (.n (some Gf) .e .e) .e))) (.n none (.n (some fC) (.n none (.n (some QJ) (.n (some Ho) .e .e) .e) (.n (some Qn) .e .e)) .e) (.n (some OH) (.n (some Ce) (.n (some SN) (.n (some QF) .e .e) .e) (.n (some NU) .e .e)) (.n (some F8) .e (.n (some Rx) .e .e)))))) (.n none (.n none (.n (some Rf) (.n none (.n none (.n (some Kz) .e .e) (.n (some SB) .e .e)) (.n (some AA3) (.n (some QE) .e .e) (.n (some Ir) .e .e))) (.n (some JZ) (.n none (.n (some Oy) .e .e) .e) (.n none (.n (some Jb) .e .e) .e))) (.n none (.n (some RQ) (.n none (.n (some Td) .e .e) (.n (some Sl) .e .e)) .e) (.n none (.n (some Ko) (.n (some Wq) (.n (some Qi) .e .e) .e) (.n (some IL) .e .e)) .e))) (.n (some Wj) (.n none (.n (some Ox) (.n none (.n (some Oo) .e .e) (.n (some oh) .e .e)) .e) (.n (some Eo) (.n (some iK) (.n none (.n (some NI) .e .e) .e) .e) (.n none (.n (some Qo) .e .e) .e))) (.n none (.n (some ng) (.n (some GY) (.n (some WE) (.n (some Pn) .e .e) .e) .e) .e) (.n none (.n (some MF) (.n (some TF) .e .e) (.n (some NY) .e .e)) (.n (some Jy) .e (.n (some Qs) .e .e))))))) (.n none (.n (some LH) (.n none (.n (some QD) (.n none (.n none (.n (some TU) .e .e) (.n (some SK) .e .e)) (.n none (.n (some Ux) .e .e) (.n (some Ij) .e .e))) (.n (some Pz) (.n (some TY) (.n (some Ja) .e .e) .e) (.n none (.n (some J3) .e .e) .e))) (.n none (.n (some xX) (.n none (.n (some Ci) .e .e) (.n (some jM) .e .e)) .e) (.n none (.n (some TV) (.n none (.n (some Qu) .e .e) .e) (.n (some EX) .e .e)) (.n none (.n (some MC) .e .e) (.n (some NT) .e .e))))) (.n none (.n (some WO) (.n (some gJ) (.n (some Ou) (.n (some ES) .e .e) (.n (some qI) .e .e)) (.n (some Ot) .e .e)) (.n (some RH) (.n (some Gj) .e .e) (.n none (.n (some QG) .e .e) .e))) (.n none (.n (some LJ) (.n none (.n (some TN) (.n (some Pq) .e .e) .e) .e) (.n (some Pm) .e .e)) (.n none (.n (some OO) (.n (some SV) (.n (some SC) .e .e) .e) (.n (some LG) .e .e)) (.n (some Ku) .e (.n (some Pv) .e .e)))))) (.n none (.n none (.n (some IB) (.n none (.n none (.n (some Ti) .e .e) (.n (some oK) .e .e)) (.n (some Qq) (.n (some TB) .e .e) (.n (some Si) .e .e))) (.n none (.n (some J5) (.n (some NV) .e .e) .e) (.n (some RV) (.n (some Gm) .e .e) .e))) (.n none (.n (some Je) (.n none (.n (some Jd) (.n (some IQ) .e .e) .e) (.n (some TJ) .e .e)) .e) (.n (some aS) (.n none (.n (some WJ) (.n (some SG) .e .e) .e) (.n (some Oq) .e .e)) (.n (some G8) .e (.n (some ML) .e .e))))) (.n (some OD) (.n none (.n none (.n none (.n (some ED) .e .e) (.n (some oH) .e .e)) .e) (.n (some Kr) (.n (some RZ) (.n none (.n (some Qy) .e .e) .e) (.n (some Ed) .e .e)) (.n none (.n (some F9) .e .e) (.n (some JV) .e .e)))) (.n (some qM) (.n (some Gl) (.n (some YB) (.n (some Tf) (.n (some OX) .e .e) .e) .e) (.n (some F7) (.n (some Jf) .e .e) .e)) (.n none (.n none (.n (some UA) .e .e) .e) (.n (some MQ) .e .e)))))))
theorem mO:T.get F 4=some LH:=by kernel_rfl
theorem xQ:T.get F 14=some OD:=by kernel_rfl
theorem ABM:T.get F 15=some Po:=by kernel_rfl
theorem AAJ:T.get F 16=some QD:=by kernel_rfl
theorem ABx:T.get F 17=some Rf:=by kernel_rfl
theorem Yo:T.get F 18=some IB:=by kernel_rfl
theorem AFh:T.get F 20=some WO:=by kernel_rfl
theorem AMi:T.get F 30=some qM:=by kernel_rfl
theorem ALa:T.get F 36=some gJ:=by kernel_rfl
theorem zK:T.get F 37=some Ox:=by kernel_rfl
theorem APV:T.get F 40=some xX:=by kernel_rfl
theorem ABr:T.get F 41=some RQ:=by kernel_rfl
theorem fA:T.get F 42=some Je:=by kernel_rfl
theorem AKP:T.get F 43=some fC:=by kernel_rfl
theorem kE:T.get F 44=some LJ:=by kernel_rfl
theorem AME:T.get F 45=some ng:=by kernel_rfl
theorem XK:T.get F 46=some Gl:=by kernel_rfl
theorem Iz:T.get F 47=some CJ:=by kernel_rfl
theorem ABR:T.get F 48=some Pz:=by kernel_rfl
theorem dh:T.get F 49=some JZ:=by kernel_rfl
theorem AAO:T.get F 51=some P7:=by kernel_rfl
theorem ACN:T.get F 52=some RH:=by kernel_rfl
theorem TT:T.get F 53=some Eo:=by kernel_rfl
theorem lF:T.get F 54=some Kr:=by kernel_rfl
theorem xA:T.get F 59=some OH:=by kernel_rfl
theorem yL:T.get F 67=some Oz:=by kernel_rfl
theorem zN:T.get F 68=some Ou:=by kernel_rfl
theorem AAX:T.get F 71=some P6:=by kernel_rfl
theorem WH:T.get F 77=some GY:=by kernel_rfl
theorem AG7:T.get F 78=some YB:=by kernel_rfl
theorem yQ:T.get F 79=some Ov:=by kernel_rfl
theorem ADx:T.get F 80=some TY:=by kernel_rfl
theorem iV:T.get F 82=some J5:=by kernel_rfl
theorem lK:T.get F 83=some LC:=by kernel_rfl
theorem XF:T.get F 84=some Gj:=by kernel_rfl
theorem ALq:T.get F 85=some iK:=by kernel_rfl
theorem ABb:T.get F 86=some RZ:=by kernel_rfl
theorem KO:T.get F 87=some Cc:=by kernel_rfl
theorem AC9:T.get F 88=some TV:=by kernel_rfl
theorem jy:T.get F 89=some Ko:=by kernel_rfl
theorem KW:T.get F 91=some Ce:=by kernel_rfl
theorem wC:T.get F 92=some OO:=by kernel_rfl
theorem oL:T.get F 93=some MF:=by kernel_rfl
theorem zC:T.get F 100=some Ot:=by kernel_rfl
theorem AAf:T.get F 108=some Pm:=by kernel_rfl
theorem Vh:T.get F 110=some F7:=by kernel_rfl
theorem AB6:T.get F 114=some RV:=by kernel_rfl
theorem AIY:T.get F 115=some Zi:=by kernel_rfl
theorem Yd:T.get F 122=some G8:=by kernel_rfl
theorem VW:T.get F 123=some F8:=by kernel_rfl
theorem lu:T.get F 124=some Ku:=by kernel_rfl
theorem iP:T.get F 125=some Jy:=by kernel_rfl
theorem ou:T.get F 126=some MQ:=by kernel_rfl
theorem jX:T.get F 127=some LK:=by kernel_rfl
theorem AC3:T.get F 128=some TU:=by kernel_rfl
theorem jf:T.get F 129=some Kz:=by kernel_rfl
theorem ADP:T.get F 130=some Ti:=by kernel_rfl
theorem dn:T.get F 131=some Jc:=by kernel_rfl
theorem Qj:T.get F 132=some ES:=by kernel_rfl
theorem zS:T.get F 133=some Oo:=by kernel_rfl
theorem Px:T.get F 134=some ED:=by kernel_rfl
theorem zT:T.get F 135=some O0:=by kernel_rfl
theorem KN:T.get F 136=some Ci:=by kernel_rfl
theorem ADn:T.get F 137=some Td:=by kernel_rfl
theorem dR:T.get F 138=some Jd:=by kernel_rfl
theorem AAw:T.get F 139=some QJ:=by kernel_rfl
theorem ACv:T.get F 140=some TN:=by kernel_rfl
theorem AFR:T.get F 141=some WE:=by kernel_rfl
theorem ADw:T.get F 142=some Tf:=by kernel_rfl
theorem AAU:T.get F 143=some P8:=by kernel_rfl
theorem eU:T.get F 144=some Ja:=by kernel_rfl
theorem yS:T.get F 145=some Oy:=by kernel_rfl
theorem tu:T.get F 146=some NV:=by kernel_rfl
theorem uH:T.get F 147=some NZ:=by kernel_rfl
theorem dQ:T.get F 174=some Jf:=by kernel_rfl
theorem qB:T.get F 175=some MO:=by kernel_rfl
theorem iZ:T.get F 176=some J3:=by kernel_rfl
theorem eF:T.get F 177=some Jb:=by kernel_rfl
theorem XR:T.get F 178=some Gm:=by kernel_rfl
theorem Vq:T.get F 179=some Gf:=by kernel_rfl
theorem AAi:T.get F 180=some QG:=by kernel_rfl
theorem Vj:T.get F 182=some F9:=by kernel_rfl
theorem sN:T.get F 183=some NW:=by kernel_rfl
theorem qE:T.get F 184=some MC:=by kernel_rfl
theorem Sr:T.get F 214=some Ed:=by kernel_rfl
theorem Ri:T.get F 216=some EX:=by kernel_rfl
theorem zA:T.get F 218=some Oq:=by kernel_rfl
theorem uM:T.get F 219=some NU:=by kernel_rfl
theorem jv:T.get F 220=some LG:=by kernel_rfl
theorem tX:T.get F 221=some NY:=by kernel_rfl
theorem uN:T.get F 248=some NT:=by kernel_rfl
theorem L8:T.get F 250=some ML:=by kernel_rfl
abbrev Gg(n:Nat)(a:AF):Prop:=AAe Go.Proofs.Tryz.prog F n a
theorem ok1{n:Nat}{a:AF}{fn:Func}{loc:Nat->Bool}{df:Bool}{ords:AKK}{dg:Nat}(hf:Go.Proofs.Tryz.prog.funcs[n]? =some fn)(ht:trF Go.Proofs.Tryz.prog loc df ords dg fn=some a)(hn:(fn.name== "runtime.NumGoroutine")=false:=by kernel_rfl)(hd:a.dg=dg:=by kernel_rfl)(hi:AMN a.dp=true:=by kernel_rfl):Gg n a:=.one hf hn ht hd hi
theorem dM:Gg 4 LH:=ok1 Proofs.Tryz.func4 lI
theorem yI:Gg 13 Wj:=ok1 Proofs.Tryz.func13 AB2
theorem pU:Gg 14 OD:=ok1 Proofs.Tryz.func14 wV
theorem vN:Gg 15 Po:=ok1 Proofs.Tryz.func15 AAd
theorem vG:Gg 16 QD:=ok1 Proofs.Tryz.func16 AAY
theorem yH:Gg 17 Rf:=ok1 Proofs.Tryz.func17 ABk
theorem X5:Gg 18 IB:=ok1 Proofs.Tryz.func18 Yq
theorem ADr:Gg 20 WO:=ok1 Proofs.Tryz.func20 AGi
theorem AIw:Gg 30 qM:=ok1 Proofs.Tryz.func30 AM4
theorem AHR:Gg 36 gJ:=ok1 Proofs.Tryz.func36 AKz
theorem uK:Gg 37 Ox:=ok1 Proofs.Tryz.func37 zB
theorem ABs:Gg 39 Y2:=ok1 Proofs.Tryz.func39 AEo
theorem ALM:Gg 40 xX:=ok1 Proofs.Tryz.func40 APj
theorem yR:Gg 41 RQ:=ok1 Proofs.Tryz.func41 ACi
theorem ZY:Gg 42 Je:=ok1 Proofs.Tryz.func42 dN
theorem AHS:Gg 43 fC:=ok1 Proofs.Tryz.func43 ALs
theorem bV:Gg 44 LJ:=ok1 Proofs.Tryz.func44 kG
theorem AJK:Gg 45 ng:=ok1 Proofs.Tryz.func45 ANT
theorem Vm:Gg 46 Gl:=ok1 Proofs.Tryz.func46 XM
theorem Ic:Gg 47 CJ:=ok1 Proofs.Tryz.func47 Iw
theorem vY:Gg 48 Pz:=ok1 Proofs.Tryz.func48 ABT
theorem Zg:Gg 49 JZ:=ok1 Proofs.Tryz.func49 cO
theorem uX:Gg 51 P7:=ok1 Proofs.Tryz.func51 AAu
theorem zL:Gg 52 RH:=ok1 Proofs.Tryz.func52 ACn
theorem Rj:Gg 53 Eo:=ok1 Proofs.Tryz.func53 TP
theorem dO:Gg 54 Kr:=ok1 Proofs.Tryz.func54 lV
theorem ADA:Gg 58 aS:=ok1 Proofs.Tryz.func58 AGS
theorem qN:Gg 59 OH:=ok1 Proofs.Tryz.func59 xM
theorem su:Gg 67 Oz:=ok1 Proofs.Tryz.func67 zG
theorem tZ:Gg 68 Ou:=ok1 Proofs.Tryz.func68 yx
theorem uw:Gg 71 P6:=ok1 Proofs.Tryz.func71 AAN
theorem Uu:Gg 77 GY:=ok1 Proofs.Tryz.func77 Wy
theorem AEk:Gg 78 YB:=ok1 Proofs.Tryz.func78 AG5
theorem uO:Gg 79 Ov:=ok1 Proofs.Tryz.func79 zU
theorem AAz:Gg 80 TY:=ok1 Proofs.Tryz.func80 AD4
theorem aI:Gg 82 J5:=ok1 Proofs.Tryz.func82 jF
theorem bY:Gg 83 LC:=ok1 Proofs.Tryz.func83 kS
theorem Ve:Gg 84 Gj:=ok1 Proofs.Tryz.func84 XI
theorem AHK:Gg 85 iK:=ok1 Proofs.Tryz.func85 ALn
theorem yj:Gg 86 RZ:=ok1 Proofs.Tryz.func86 ACS
theorem J7:Gg 87 Cc:=ok1 Proofs.Tryz.func87 KR
theorem AAE:Gg 88 TV:=ok1 Proofs.Tryz.func88 ADo
theorem bf:Gg 89 Ko:=ok1 Proofs.Tryz.func89 jo
theorem Jv:Gg 91 Ce:=ok1 Proofs.Tryz.func91 KU
theorem qU:Gg 92 OO:=ok1 Proofs.Tryz.func92 wQ
theorem jH:Gg 93 MF:=ok1 Proofs.Tryz.func93 pz
theorem AJk:Gg 97 AA3:=ok1 Proofs.Tryz.func97 AM6
theorem mM:Gg 98 Qq:=ok1 Proofs.Tryz.func98 sF
theorem xU:Gg 99 U6:=ok1 Proofs.Tryz.func99 ABP
theorem rY:Gg 100 Ot:=ok1 Proofs.Tryz.func100 yw
theorem wP:Gg 108 Pm:=ok1 Proofs.Tryz.func108 ABF
theorem UW:Gg 110 F7:=ok1 Proofs.Tryz.func110 VY
theorem yZ:Gg 114 RV:=ok1 Proofs.Tryz.func114 ACp
theorem AGW:Gg 115 Zi:=ok1 Proofs.Tryz.func115 AJo
theorem XP:Gg 122 G8:=ok1 Proofs.Tryz.func122 YF
theorem UR:Gg 123 F8:=ok1 Proofs.Tryz.func123 VX
theorem dI:Gg 124 Ku:=ok1 Proofs.Tryz.func124 ku
theorem ah:Gg 125 Jy:=ok1 Proofs.Tryz.func125 jG
theorem iq:Gg 126 MQ:=ok1 Proofs.Tryz.func126 oM
theorem dU:Gg 127 LK:=ok1 Proofs.Tryz.func127 mY
theorem AA2:Gg 128 TU:=ok1 Proofs.Tryz.func128 ADZ
theorem dF:Gg 129 Kz:=ok1 Proofs.Tryz.func129 mD
theorem ABS:Gg 130 Ti:=ok1 Proofs.Tryz.func130 ADe
theorem Zf:Gg 131 Jc:=ok1 Proofs.Tryz.func131 dD
theorem QH:Gg 132 ES:=ok1 Proofs.Tryz.func132 Q7
theorem sW:Gg 133 Oo:=ok1 Proofs.Tryz.func133 y8
theorem PI:Gg 134 ED:=ok1 Proofs.Tryz.func134 QB
theorem tq:Gg 135 O0:=ok1 Proofs.Tryz.func135 yK
theorem Jw:Gg 136 Ci:=ok1 Proofs.Tryz.func136 KL
theorem AAT:Gg 137 Td:=ok1 Proofs.Tryz.func137 AD3
theorem ZW:Gg 138 Jd:=ok1 Proofs.Tryz.func138 dY
theorem vZ:Gg 139 QJ:=ok1 Proofs.Tryz.func139 AAQ
theorem AAr:Gg 140 TN:=ok1 Proofs.Tryz.func140 ADI
theorem AC1:Gg 141 WE:=ok1 Proofs.Tryz.func141 AGB
theorem AAh:Gg 142 Tf:=ok1 Proofs.Tryz.func142 ADW
theorem wY:Gg 143 P8:=ok1 Proofs.Tryz.func143 ABD
theorem Za:Gg 144 Ja:=ok1 Proofs.Tryz.func144 cZ
theorem sZ:Gg 145 Oy:=ok1 Proofs.Tryz.func145 y5
theorem lW:Gg 146 NV:=ok1 Proofs.Tryz.func146 tK
theorem kD:Gg 147 NZ:=ok1 Proofs.Tryz.func147 tN
theorem zF:Gg 153 Wq:=ok1 Proofs.Tryz.func153 ABf
theorem yN:Gg 154 WJ:=ok1 Proofs.Tryz.func154 ACW
theorem pW:Gg 155 SN:=ok1 Proofs.Tryz.func155 uq
theorem o9:Gg 156 SV:=ok1 Proofs.Tryz.func156 wG
theorem oV:Gg 157 TF:=ok1 Proofs.Tryz.func157 vX
theorem rV:Gg 158 UA:=ok1 Proofs.Tryz.func158 y7
theorem pV:Gg 159 SX:=ok1 Proofs.Tryz.func159 wu
theorem uT:Gg 160 Ux:=ok1 Proofs.Tryz.func160 AAn
theorem iw:Gg 161 QE:=ok1 Proofs.Tryz.func161 oI
theorem qO:Gg 162 TB:=ok1 Proofs.Tryz.func162 wR
theorem ZV:Gg 174 Jf:=ok1 Proofs.Tryz.func174 bZ
theorem jP:Gg 175 MO:=ok1 Proofs.Tryz.func175 pY
theorem aP:Gg 176 J3:=ok1 Proofs.Tryz.func176 jU
theorem Zd:Gg 177 Jb:=ok1 Proofs.Tryz.func177 eX
theorem Vl:Gg 178 Gm:=ok1 Proofs.Tryz.func178 XG
theorem U8:Gg 179 Gf:=ok1 Proofs.Tryz.func179 WX
theorem vW:Gg 180 QG:=ok1 Proofs.Tryz.func180 AAM
theorem lY:Gg 181 Qo:=ok1 Proofs.Tryz.func181 sS
theorem Ug:Gg 182 F9:=ok1 Proofs.Tryz.func182 Vf
theorem jr:Gg 183 NW:=ok1 Proofs.Tryz.func183 tH
theorem iT:Gg 184 MC:=ok1 Proofs.Tryz.func184 ni
theorem yJ:Gg 191 Wh:=ok1 Proofs.Tryz.func191 ACh
theorem qA:Gg 192 SK:=ok1 Proofs.Tryz.func192 xB
theorem nX:Gg 193 SB:=ok1 Proofs.Tryz.func193 vw
theorem AGQ:Gg 194 oK:=ok1 Proofs.Tryz.func194 AJC
theorem AAt:Gg 195 X4:=ok1 Proofs.Tryz.func195 ADg
theorem AGu:Gg 196 qI:=ok1 Proofs.Tryz.func196 AI8
theorem AGC:Gg 197 oh:=ok1 Proofs.Tryz.func197 AIy
theorem AFb:Gg 198 oH:=ok1 Proofs.Tryz.func198 AIz
theorem AGR:Gg 199 pR:=ok1 Proofs.Tryz.func199 AJn
theorem AEi:Gg 200 jM:=ok1 Proofs.Tryz.func200 AG6
theorem o8:Gg 201 Sl:=ok1 Proofs.Tryz.func201 uz
theorem pG:Gg 202 TJ:=ok1 Proofs.Tryz.func202 xG
theorem lq:Gg 203 Qn:=.two Proofs.Tryz.func203 (by kernel_rfl) sO (by kernel_rfl) L8 (by kernel_rfl)
theorem Qk:Gg 214 Ed:=ok1 Proofs.Tryz.func214 TI
theorem Uj:Gg 215 Io:=ok1 Proofs.Tryz.func215 Vb
theorem QM:Gg 216 EX:=ok1 Proofs.Tryz.func216 Rl
theorem UH:Gg 217 IL:=ok1 Proofs.Tryz.func217 U5
theorem sK:Gg 218 Oq:=ok1 Proofs.Tryz.func218 zV
theorem kJ:Gg 219 NU:=ok1 Proofs.Tryz.func219 rZ
theorem dP:Gg 220 LG:=ok1 Proofs.Tryz.func220 lC
theorem jm:Gg 221 NY:=ok1 Proofs.Tryz.func221 uG
theorem Ue:Gg 224 Ij:=ok1 Proofs.Tryz.func224 Vp
theorem Uf:Gg 225 Ir:=ok1 Proofs.Tryz.func225 VT
theorem nV:Gg 226 Si:=ok1 Proofs.Tryz.func226 wB
theorem qV:Gg 227 S9:=ok1 Proofs.Tryz.func227 vF
theorem Vo:Gg 246 JV:=ok1 Proofs.Tryz.func246 XJ
theorem Uz:Gg 247 JH:=ok1 Proofs.Tryz.func247 Wv
theorem lJ:Gg 248 NT:=ok1 Proofs.Tryz.func248 uD
theorem jD:Gg 250 ML:=ok1 Proofs.Tryz.func250 pF
theorem qQ:Gg 251 Rx:=.two Proofs.Tryz.func251 (by kernel_rfl) wU (by kernel_rfl) L8 (by kernel_rfl)
theorem iQ:Gg 252 Pv:=.two Proofs.Tryz.func252 (by kernel_rfl) og (by kernel_rfl) L8 (by kernel_rfl)
theorem nN:Gg 253 Qs:=ok1 Proofs.Tryz.func253 sU
theorem UE:Gg 266 IQ:=ok1 Proofs.Tryz.func266 U4
theorem TW:Gg 267 Ho:=ok1 Proofs.Tryz.func267 UU
theorem jB:Gg 268 Pq:=ok1 Proofs.Tryz.func268 qJ
theorem jR:Gg 269 Pn:=ok1 Proofs.Tryz.func269 oW
theorem bK:Gg 270 OX:=ok1 Proofs.Tryz.func270 iR
theorem Yp:Gg 277 NI:=ok1 Proofs.Tryz.func277 bI
theorem nK:Gg 278 Qy:=ok1 Proofs.Tryz.func278 tY
theorem Xw:Gg 279 LW:=ok1 Proofs.Tryz.func279 Y3
theorem kH:Gg 280 Qu:=.two Proofs.Tryz.func280 (by kernel_rfl) rW (by kernel_rfl) L8 (by kernel_rfl)
theorem mV:Gg 281 Qi:=ok1 Proofs.Tryz.func281 uF
theorem oO:Gg 282 SG:=ok1 Proofs.Tryz.func282 vI
theorem jC:Gg 283 QF:=ok1 Proofs.Tryz.func283 qF
theorem oZ:Gg 284 SC:=ok1 Proofs.Tryz.func284 wO
theorem all_good:T.All (λp af=>AAe Go.Proofs.Tryz.prog F p.key af) F:=(.n0 (.n0 (.n0 (.n0 (.n1 vN (.n0 (.n0 (.n1 dU .e .e) (.n1 yJ .e .e)) (.n0 (.n1 pV .e .e) .e)) (.n1 Ic (.n1 uO (.n1 wY .e .e) .e) (.n0 (.n1 jP .e .e) .e))) (.n0 (.n1 ABs (.n1 uw (.n1 tq .e .e) (.n1 AGR .e .e)) .e) (.n0 (.n1 J7 (.n0 (.n1 Xw .e .e) .e) (.n1 Uj .e .e)) (.n0 (.n1 jr .e .e) (.n1 Uz .e .e))))) (.n0 (.n0 (.n0 (.n1 su (.n1 Zf .e .e) (.n1 AAt .e .e)) (.n1 xU .e (.n1 qV .e .e))) (.n1 uX (.n1 bY (.n1 kD .e .e) .e) (.n1 AGW (.n1 U8 .e .e) .e))) (.n0 (.n1 AHS (.n0 (.n1 vZ (.n1 TW .e .e) .e) (.n1 lq .e .e)) .e) (.n1 qN (.n1 Jv (.n1 pW (.n1 jC .e .e) .e) (.n1 kJ .e .e)) (.n1 UR .e (.n1 qQ .e .e)))))) (.n0 (.n0 (.n1 yH (.n0 (.n0 (.n1 dF .e .e) (.n1 nX .e .e)) (.n1 AJk (.n1 iw .e .e) (.n1 Uf .e .e))) (.n1 Zg (.n0 (.n1 sZ .e .e) .e) (.n0 (.n1 Zd .e .e) .e))) (.n0 (.n1 yR (.n0 (.n1 AAT .e .e) (.n1 o8 .e .e)) .e) (.n0 (.n1 bf (.n1 zF (.n1 mV .e .e) .e) (.n1 UH .e .e)) .e))) (.n1 yI (.n0 (.n1 uK (.n0 (.n1 sW .e .e) (.n1 AGC .e .e)) .e) (.n1 Rj (.n1 AHK (.n0 (.n1 Yp .e .e) .e) .e) (.n0 (.n1 lY .e .e) .e))) (.n0 (.n1 AJK (.n1 Uu (.n1 AC1 (.n1 jR .e .e) .e) .e) .e) (.n0 (.n1 jH (.n1 oV .e .e) (.n1 jm .e .e)) (.n1 ah .e (.n1 nN .e .e))))))) (.n0 (.n1 dM (.n0 (.n1 vG (.n0 (.n0 (.n1 AA2 .e .e) (.n1 qA .e .e)) (.n0 (.n1 uT .e .e) (.n1 Ue .e .e))) (.n1 vY (.n1 AAz (.n1 Za .e .e) .e) (.n0 (.n1 aP .e .e) .e))) (.n0 (.n1 ALM (.n0 (.n1 Jw .e .e) (.n1 AEi .e .e)) .e) (.n0 (.n1 AAE (.n0 (.n1 kH .e .e) .e) (.n1 QM .e .e)) (.n0 (.n1 iT .e .e) (.n1 lJ .e .e))))) (.n0 (.n1 ADr (.n1 AHR (.n1 tZ (.n1 QH .e .e) (.n1 AGu .e .e)) (.n1 rY .e .e)) (.n1 zL (.n1 Ve .e .e) (.n0 (.n1 vW .e .e) .e))) (.n0 (.n1 bV (.n0 (.n1 AAr (.n1 jB .e .e) .e) .e) (.n1 wP .e .e)) (.n0 (.n1 qU (.n1 o9 (.n1 oZ .e .e) .e) (.n1 dP .e .e)) (.n1 dI .e (.n1 iQ .e .e)))))) (.n0 (.n0 (.n1 X5 (.n0 (.n0 (.n1 ABS .e .e) (.n1 AGQ .e .e)) (.n1 mM (.n1 qO .e .e) (.n1 nV .e .e))) (.n0 (.n1 aI (.n1 lW .e .e) .e) (.n1 yZ (.n1 Vl .e .e) .e))) (.n0 (.n1 ZY (.n0 (.n1 ZW (.n1 UE .e .e) .e) (.n1 pG .e .e)) .e) (.n1 ADA (.n0 (.n1 yN (.n1 oO .e .e) .e) (.n1 sK .e .e)) (.n1 XP .e (.n1 jD .e .e))))) (.n1 pU (.n0 (.n0 (.n0 (.n1 PI .e .e) (.n1 AFb .e .e)) .e) (.n1 dO (.n1 yj (.n0 (.n1 nK .e .e) .e) (.n1 Qk .e .e)) (.n0 (.n1 Ug .e .e) (.n1 Vo .e .e)))) (.n1 AIw (.n1 Vm (.n1 AEk (.n1 AAh (.n1 bK .e .e) .e) .e) (.n1 UW (.n1 ZV .e .e) .e)) (.n0 (.n0 (.n1 rV .e .e) .e) (.n1 iq .e .e)))))))
theorem AXH:AHn Go.Proofs.Tryz.prog F:=.AWM (by kernel_rfl) all_good
end Go.RL
