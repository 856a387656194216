/- Part of a proof; nothing is assumed. -/
import Derived.Test.YtdellhdojgpghaaGreatDoorEngA
import Derived.Test.YtdellhdojgpghaaGreatDoorEngF
import Derived.Test.YtdellhdojgpghaaGreatDoorProg
set_option linter.unusedVariables false
set_option linter.unusedSimpArgs false
noncomputable section
namespace Go.RL
open Go.Bj
set_option maxRecDepth 100000
abbrev tr(l:List (Nat×Nat))(d:Bool)(o:AKO)(g:Nat)(f:Func):Option AF:=trF Go.Proofs.Tryz.prog (inR l) d o g f
abbrev UC:=tr [(13,13),(15,20),(22,24),(26,42),(44,59),(70,87)] false [(20,opp [0,2,3,4,9,10,1,5,6,7,8,11,12])] 0 Proofs.Tryz.f3
def Iz:=BM UC
theorem bZ:UC=some Iz:=Ag (by kernel_rfl)
abbrev fV:=tr [(9,14),(25,30)] false [(4,opp [0,2,3,4,9,10,1,5,6,7,8,11,12]),(8,opp [0,2,3,4,9,10,1,5,6,7,8,11,12]),(9,PD 25)] 0 Proofs.Tryz.f4
def VE:=BM fV
theorem AA9:fV=some VE:=Ag (by kernel_rfl)
abbrev qW:=tr [(9,9),(14,22),(24,29)] false [] 0 Proofs.Tryz.f5
def TG:=BM qW
theorem AD8:qW=some TG:=Ag (by kernel_rfl)
abbrev yR:=tr [(12,18),(32,36),(43,51),(56,58),(66,71),(78,79)] false [(2,PD 9),(3,PD 6),(6,PD 7),(12,PD 8),(15,PD 7)] 0 Proofs.Tryz.f6
def U5:=BM yR
theorem AGH:yR=some U5:=Ag (by kernel_rfl)
abbrev aN:=tr [(6,6),(11,20)] false [] 0 Proofs.Tryz.f7
def O5:=BM aN
theorem zU:aN=some O5:=Ag (by kernel_rfl)
abbrev AG8:=tr [(1,1)] false [] 0 Proofs.Tryz.f8
def ku:=BM AG8
theorem ANe:AG8=some ku:=Ag (by kernel_rfl)
abbrev yT:=tr [(8,14),(18,24),(31,32)] false [(3,PD 4),(7,PD 7)] 0 Proofs.Tryz.f9
def U6:=BM yT
theorem AFu:yT=some U6:=Ag (by kernel_rfl)
abbrev ay:=tr [(8,8),(10,26)] false [] 0 Proofs.Tryz.f10
def Oz:=BM ay
theorem AAE:ay=some Oz:=Ag (by kernel_rfl)
abbrev iM:=tr [(5,30)] false [] 0 Proofs.Tryz.f11
def QG:=BM iM
theorem AB0:iM=some QG:=Ag (by kernel_rfl)
abbrev AHD:=tr [(14,14),(19,20),(28,30)] false [(1,opp [0,1,2,3,4,5,8,6,7,9]),(5,PD 8)] 0 Proofs.Tryz.f12
def jD:=BM AHD
theorem AN4:AHD=some jD:=Ag (by kernel_rfl)
abbrev Zk:=tr [(10,10),(13,14),(18,18),(21,31),(33,49),(51,59),(61,62),(64,66),(71,77),(79,88),(90,91),(96,105),(107,127),(129,129)] false [] 0 Proofs.Tryz.f13
def Nz:=BM Zk
theorem xK:Zk=some Nz:=Ag (by kernel_rfl)
abbrev Jk:=tr [(3,3),(5,7)] false [] 0 Proofs.Tryz.f14
def EC:=BM Jk
theorem Q8:Jk=some EC:=Ag (by kernel_rfl)
abbrev Ut:=tr [(7,15),(20,33)] false [] 0 Proofs.Tryz.f15
def JY:=BM Ut
theorem iC:Ut=some JY:=Ag (by kernel_rfl)
abbrev AEx:=tr [(6,9),(14,15),(23,24)] false [(5,PD 8)] 0 Proofs.Tryz.f16
def ah:=BM AEx
theorem ALB:AEx=some ah:=Ag (by kernel_rfl)
abbrev AHO:=tr [(8,13),(20,27),(35,40),(42,43)] false [(3,PD 7),(8,PD 8)] 0 Proofs.Tryz.f17
def kP:=BM AHO
theorem ANg:AHO=some kP:=Ag (by kernel_rfl)
abbrev Wx:=tr [(5,19),(21,32),(34,35),(37,40),(50,57),(59,61),(69,84),(86,88)] false [(11,opp [0,1,2,4,3,5,6,7,8,9]),(15,PD 8)] 0 Proofs.Tryz.f18
def LD:=BM Wx
theorem mY:Wx=some LD:=Ag (by kernel_rfl)
abbrev bU:=tr [(3,8)] false [] 0 Proofs.Tryz.f19
def O3:=BM bU
theorem AAa:bU=some O3:=Ag (by kernel_rfl)
abbrev OU:=tr [(6,9),(11,11),(15,15),(25,25)] false [(6,PD 9)] 0 Proofs.Tryz.f20
def E5:=BM OU
theorem Vd:OU=some E5:=Ag (by kernel_rfl)
abbrev ET:=tr [(10,13),(19,29),(31,31)] false [] 0 Proofs.Tryz.f21
def Bq:=BM ET
theorem JR:ET=some Bq:=Ag (by kernel_rfl)
abbrev lq:=tr [(5,30)] false [] 0 Proofs.Tryz.f22
def RJ:=BM lq
theorem AC0:lq=some RJ:=Ag (by kernel_rfl)
abbrev OM:=tr [(3,3),(5,7)] false [] 0 Proofs.Tryz.f23
def Ez:=BM OM
theorem VW:OM=some Ez:=Ag (by kernel_rfl)
abbrev AGQ:=tr [(6,13),(18,28)] false [] 0 Proofs.Tryz.f24
def bT:=BM AGQ
theorem AL6:AGQ=some bT:=Ag (by kernel_rfl)
abbrev fU:=tr [(2,11)] false [] 0 Proofs.Tryz.f25
def QU:=BM fU
theorem ABc:fU=some QU:=Ag (by kernel_rfl)
abbrev Ze:=tr [(9,9),(11,22),(24,24),(31,31)] false [(6,[(0,.plain),(1,.plain),(2,.plain),(4,.plain),(5,.plain),(3,.plain),(6,.wr),(7,.wr)])] 0 Proofs.Tryz.f26
def N9:=BM Ze
theorem xR:Ze=some N9:=Ag (by kernel_rfl)
abbrev Nc:=tr [(5,8)] false [] 0 Proofs.Tryz.f27
def Ep:=BM Nc
theorem VN:Nc=some Ep:=Ag (by kernel_rfl)
abbrev AAo:=tr [(5,6),(10,10),(29,31),(35,35),(54,54)] false [(4,PD 18),(10,PD 18)] 0 Proofs.Tryz.f28
def Wp:=BM AAo
theorem AGd:AAo=some Wp:=Ag (by kernel_rfl)
abbrev ZL:=tr [(7,7),(13,16),(18,20),(22,29),(31,31)] false [] 0 Proofs.Tryz.f29
def Nw:=BM ZL
theorem yC:ZL=some Nw:=Ag (by kernel_rfl)
abbrev ZH:=tr [(10,10),(14,14),(17,22),(27,40),(44,45)] false [(8,PD 5)] 0 Proofs.Tryz.f30
def Ns:=BM ZH
theorem xB:ZH=some Ns:=Ag (by kernel_rfl)
abbrev Yl:=tr [(12,12),(16,16),(19,24),(29,48),(52,53)] false [(8,PD 5)] 0 Proofs.Tryz.f31
def MX:=BM Yl
theorem uT:Yl=some MX:=Ag (by kernel_rfl)
abbrev YR:=tr [] false [(1,opp [0,1,2,3,4,9,5,6,7,8,10,11]),(2,PD 18),(3,opp [0,1,2,3,4,5,6,7,8,10,11,12,13,14,15,9,16,17,18,19,20,21,22,23])] 0 Proofs.Tryz.f32
def NI:=BM YR
theorem sK:YR=some NI:=Ag (by kernel_rfl)
abbrev Vw:=tr [(9,14),(19,39)] false [] 0 Proofs.Tryz.f33
def J6:=BM Vw
theorem kL:Vw=some J6:=Ag (by kernel_rfl)
abbrev iO:=tr [(24,39),(61,61),(73,75)] false [(0,PD 10),(1,PD 10),(4,PD 11),(5,PD 11),(7,PD 11)] 0 Proofs.Tryz.f34
def QS:=BM iO
theorem AAp:iO=some QS:=Ag (by kernel_rfl)
abbrev fG:=tr [(9,13),(24,24),(37,37),(49,52),(54,59),(61,68),(70,70),(72,85),(87,87),(89,92),(94,109)] false [(2,PD 10),(4,PD 10),(8,PD 11)] 0 Proofs.Tryz.f35
def QI:=BM fG
theorem ABi:fG=some QI:=Ag (by kernel_rfl)
abbrev Yh:=tr [(10,14),(16,18)] false [] 0 Proofs.Tryz.f36
def ML:=BM Yh
theorem qE:Yh=some ML:=Ag (by kernel_rfl)
abbrev YB:=tr [(5,17),(19,23)] false [] 0 Proofs.Tryz.f37
def MP:=BM YB
theorem rU:YB=some MP:=Ag (by kernel_rfl)
abbrev YC:=tr [(5,8),(10,11)] false [] 0 Proofs.Tryz.f38
def ND:=BM YC
theorem qx:YC=some ND:=Ag (by kernel_rfl)
abbrev Zj:=tr [(4,6),(8,12)] false [] 0 Proofs.Tryz.f39
def Nj:=BM Zj
theorem xG:Zj=some Nj:=Ag (by kernel_rfl)
abbrev YX:=tr [(4,4),(6,7)] false [] 0 Proofs.Tryz.f40
def MQ:=BM YX
theorem tK:YX=some MQ:=Ag (by kernel_rfl)
abbrev aU:=tr [(11,44),(46,46)] false [] 0 Proofs.Tryz.f41
def Ot:=BM aU
theorem zo:aU=some Ot:=Ag (by kernel_rfl)
abbrev Vr:=tr [(6,12),(17,34),(36,38),(40,44),(54,62)] false [(2,opp [0,1,4,2,3,5]),(11,opp [0,1,2,4,3,5,6,7,8,9])] 0 Proofs.Tryz.f42
def KF:=BM Vr
theorem jK:Vr=some KF:=Ag (by kernel_rfl)
abbrev YI:=tr [(4,8),(10,21)] false [] 0 Proofs.Tryz.f43
def NC:=BM YI
theorem sN:YI=some NC:=Ag (by kernel_rfl)
abbrev Lu:=tr [(6,9),(11,11),(15,15),(25,25)] false [(6,PD 9)] 0 Proofs.Tryz.f44
def EZ:=BM Lu
theorem UO:Lu=some EZ:=Ag (by kernel_rfl)
abbrev Ir:=tr [(4,8)] false [] 0 Proofs.Tryz.f45
def Dh:=BM Ir
theorem QC:Ir=some Dh:=Ag (by kernel_rfl)
abbrev ZI:=tr [(5,9)] false [] 0 Proofs.Tryz.f46
def Nl:=BM ZI
theorem xH:ZI=some Nl:=Ag (by kernel_rfl)
abbrev aQ:=tr [(5,7)] false [] 0 Proofs.Tryz.f47
def Oy:=BM aQ
theorem zA:aQ=some Oy:=Ag (by kernel_rfl)
abbrev IE:=tr [(4,8)] false [] 0 Proofs.Tryz.f48
def DN:=BM IE
theorem O4:IE=some DN:=Ag (by kernel_rfl)
abbrev ZB:=tr [(5,9)] false [] 0 Proofs.Tryz.f49
def OA:=BM ZB
theorem wG:ZB=some OA:=Ag (by kernel_rfl)
abbrev PX:=tr [(6,6),(10,15),(17,18)] false [] 0 Proofs.Tryz.f50
def FZ:=BM PX
theorem Wv:PX=some FZ:=Ag (by kernel_rfl)
abbrev ADB:=tr [(3,22)] false [] 0 Proofs.Tryz.f51
def Yz:=BM ADB
theorem AJo:ADB=some Yz:=Ag (by kernel_rfl)
abbrev AKr:=tr [(3,4)] false [] 0 Proofs.Tryz.f52
def vG:=BM AKr
theorem AQY:AKr=some vG:=Ag (by kernel_rfl)
abbrev iR:=tr [(3,22)] false [] 0 Proofs.Tryz.f53
def QO:=BM iR
theorem AB1:iR=some QO:=Ag (by kernel_rfl)
abbrev ak:=tr [(8,8),(13,17),(19,22)] false [] 0 Proofs.Tryz.f54
def Ol:=BM ak
theorem AAU:ak=some Ol:=Ag (by kernel_rfl)
abbrev Zu:=tr [(8,8),(13,17),(19,21)] false [] 0 Proofs.Tryz.f55
def Nr:=BM Zu
theorem xA:Zu=some Nr:=Ag (by kernel_rfl)
abbrev Y5:=tr [(8,10),(15,19),(21,24)] false [] 0 Proofs.Tryz.f56
def N7:=BM Y5
theorem xE:Y5=some N7:=Ag (by kernel_rfl)
abbrev XG:=tr [(9,9),(11,20)] false [] 0 Proofs.Tryz.f57
def LG:=BM XG
theorem ng:XG=some LG:=Ag (by kernel_rfl)
abbrev XI:=tr [(8,12),(14,14),(33,38),(43,45),(53,58),(60,65),(68,68),(82,90),(92,92),(113,114),(120,129),(131,131),(149,149),(155,155)] false [(3,opp [0,1,2,3,4,5,6,7,8,9,10,11,13,14,12,15,16,17]),(9,PD 8),(16,opp [0,1,2,3,4,5,6,7,8,10,11,9,12]),(19,opp [0,1,2,3,4,5,6,7,8,9,10,11,13,14,15,16,17,12,18]),(22,PD 5),(26,opp [0,1,2,3,4,5,6,7,8,9,10,11,13,14,12,15]),(28,PD 5)] 0 Proofs.Tryz.f58
def LQ:=BM XI
theorem ni:XI=some LQ:=Ag (by kernel_rfl)
abbrev fQ:=tr [(7,15),(26,43)] false [(3,PD 10)] 0 Proofs.Tryz.f59
def QM:=BM fQ
theorem ABw:fQ=some QM:=Ag (by kernel_rfl)
abbrev Yf:=tr [(5,7)] false [] 0 Proofs.Tryz.f60
def MK:=BM Yf
theorem tq:Yf=some MK:=Ag (by kernel_rfl)
abbrev YN:=tr [(5,7)] false [] 0 Proofs.Tryz.f61
def L8:=BM YN
theorem rE:YN=some L8:=Ag (by kernel_rfl)
abbrev ADO:=tr [(3,8)] false [] 0 Proofs.Tryz.f62
def Yp:=BM ADO
theorem AI4:ADO=some Yp:=Ag (by kernel_rfl)
abbrev lM:=tr [(33,34)] false [(2,PD 27),(4,PD 16)] 0 Proofs.Tryz.f63
def RP:=BM lM
theorem ACo:lM=some RP:=Ag (by kernel_rfl)
abbrev ADv:=tr [(3,16)] false [] 0 Proofs.Tryz.f64
def Y0:=BM ADv
theorem AIz:ADv=some Y0:=Ag (by kernel_rfl)
abbrev ADh:=tr [(3,8)] false [] 0 Proofs.Tryz.f65
def Yr:=BM ADh
theorem AIm:ADh=some Yr:=Ag (by kernel_rfl)
abbrev ADb:=tr [(5,25)] false [] 0 Proofs.Tryz.f66
def Yo:=BM ADb
theorem AIn:ADb=some Yo:=Ag (by kernel_rfl)
abbrev ADo:=tr [(3,8)] false [] 0 Proofs.Tryz.f67
def Yv:=BM ADo
theorem AJn:ADo=some Yv:=Ag (by kernel_rfl)
abbrev ABR:=tr [(7,7),(12,20),(22,23)] false [] 0 Proofs.Tryz.f68
def Wq:=BM ABR
theorem AGe:ABR=some Wq:=Ag (by kernel_rfl)
abbrev YK:=tr [(4,11),(13,21)] false [] 0 Proofs.Tryz.f69
def MS:=BM YK
theorem qH:YK=some MS:=Ag (by kernel_rfl)
abbrev YF:=tr [(4,6),(8,13)] false [] 0 Proofs.Tryz.f70
def NG:=BM YF
theorem uN:YF=some NG:=Ag (by kernel_rfl)
abbrev XD:=tr [(4,14),(16,21)] true [] 98 Proofs.Tryz.f71
def Kw:=BM XD
theorem nK:XD=some Kw:=Ag (by kernel_rfl)
abbrev OV:=tr [(10,12),(14,29),(31,34),(36,53),(55,62)] false [] 0 Proofs.Tryz.f72
def E8:=BM OV
theorem VT:OV=some E8:=Ag (by kernel_rfl)
abbrev MW:=tr [(5,7)] false [] 0 Proofs.Tryz.f73
def EY:=BM MW
theorem UQ:MW=some EY:=Ag (by kernel_rfl)
abbrev Na:=tr [(10,12),(14,29),(31,34),(36,53),(55,62)] false [] 0 Proofs.Tryz.f74
def Es:=BM Na
theorem VB:Na=some Es:=Ag (by kernel_rfl)
abbrev XT:=tr [(6,10),(12,17)] false [] 0 Proofs.Tryz.f75
def Ky:=BM XT
theorem nN:XT=some Ky:=Ag (by kernel_rfl)
abbrev NJ:=tr [(3,3),(5,7)] false [] 0 Proofs.Tryz.f76
def Ea:=BM NJ
theorem Ub:NJ=some Ea:=Ag (by kernel_rfl)
abbrev Xj:=tr [(7,8),(10,11),(13,14),(16,18),(20,23),(25,27),(29,29),(40,46),(48,48),(58,64),(66,70),(72,72),(85,87),(89,89),(107,111),(113,113),(133,139),(141,141),(155,157)] false [(13,PD 10),(16,opp [0,1,2,3,4,9,5,6,7,8,10,11]),(24,opp [0,1,2,3,4,5,6,7,9,10,8,11]),(27,PD 5),(28,opp [0,1,2,3,4,5,6,7,9,10,8,11]),(31,PD 13),(32,PD 6),(35,PD 13)] 0 Proofs.Tryz.f77
def LH:=BM Xj
theorem nY:Xj=some LH:=Ag (by kernel_rfl)
abbrev bF:=tr [(8,10),(15,30)] false [(3,PD 4)] 0 Proofs.Tryz.f78
def O6:=BM bF
theorem yx:bF=some O6:=Ag (by kernel_rfl)
abbrev WG:=tr [(13,14),(24,24)] false [(4,PD 9)] 0 Proofs.Tryz.f79
def J5:=BM WG
theorem jG:WG=some J5:=Ag (by kernel_rfl)
abbrev AGD:=tr [(1,1)] false [] 0 Proofs.Tryz.f80
def aI:=BM AGD
theorem AMC:AGD=some aI:=Ag (by kernel_rfl)
abbrev MH:=tr [(5,17)] false [] 0 Proofs.Tryz.f81
def EX:=BM MH
theorem Um:MH=some EX:=Ag (by kernel_rfl)
abbrev MZ:=tr [(5,7)] false [] 0 Proofs.Tryz.f82
def Ec:=BM MZ
theorem UJ:MZ=some Ec:=Ag (by kernel_rfl)
abbrev YT:=tr [(3,13),(15,17)] false [] 0 Proofs.Tryz.f83
def MR:=BM YT
theorem rG:YT=some MR:=Ag (by kernel_rfl)
abbrev Yj:=tr [(4,13),(15,30),(32,36),(38,48),(50,56),(58,68)] false [] 0 Proofs.Tryz.f84
def Md:=BM Yj
theorem qM:Yj=some Md:=Ag (by kernel_rfl)
abbrev Jc:=tr [(10,13),(15,17),(35,36)] false [(4,PD 17),(6,PD 18)] 0 Proofs.Tryz.f85
def Dx:=BM Jc
theorem Qy:Jc=some Dx:=Ag (by kernel_rfl)
abbrev L6:=tr [(25,27),(29,32),(34,39),(51,57),(59,60),(77,79),(81,84),(86,91),(104,109),(111,112),(129,139),(141,150),(152,157),(172,184),(186,198),(200,212),(214,219)] false [(5,PD 11),(11,PD 18),(17,PD 12),(23,PD 18),(35,PD 14)] 0 Proofs.Tryz.f86
def Gu:=BM L6
theorem UW:L6=some Gu:=Ag (by kernel_rfl)
abbrev JH:=tr [(10,13),(15,17),(35,36)] false [(4,PD 17),(6,PD 18)] 0 Proofs.Tryz.f88
def Dq:=BM JH
theorem QZ:JH=some Dq:=Ag (by kernel_rfl)
abbrev Lc:=tr [(25,27),(29,32),(34,39),(51,57),(59,60),(77,79),(81,84),(86,91),(104,109),(111,112),(129,139),(141,150),(152,157),(172,184),(186,198),(200,212),(214,219)] false [(5,PD 11),(11,PD 18),(17,PD 12),(23,PD 18),(35,PD 14)] 0 Proofs.Tryz.f89
def Gg:=BM Lc
theorem Td:Lc=some Gg:=Ag (by kernel_rfl)
abbrev Xt:=tr [(7,17),(22,24),(34,40)] false [(5,PD 10)] 0 Proofs.Tryz.f90
def LC:=BM Xt
theorem mJ:Xt=some LC:=Ag (by kernel_rfl)
abbrev yL:=tr [(1,1)] false [] 0 Proofs.Tryz.f91
def Uy:=BM yL
theorem AFb:yL=some Uy:=Ag (by kernel_rfl)
abbrev VD:=tr [(20,23),(63,66),(83,89),(118,123)] false [(0,PD 11),(2,PD 14),(3,opp [0,1,3,4,5,6,7,8,9,2,10,11]),(4,opp [0,1,2,3,4,5,6,8,9,10,11,7,12,13]),(6,opp [0,1,2,3,4,5,6,7,8,9,15,10,11,12,13,14,16,17,18]),(8,PD 10),(9,opp [0,1,2,3,4,5,6,7,8,9,10,11,12,13,14,20,15,16,17,18,19,21,22,23]),(11,PD 7),(12,PD 11)] 0 Proofs.Tryz.f92
def Ja:=BM VD
theorem gK:VD=some Ja:=Ag (by kernel_rfl)
abbrev lT:=tr [(3,5)] false [] 0 Proofs.Tryz.f93
def RN:=BM lT
theorem ACg:lT=some RN:=Ag (by kernel_rfl)
abbrev Xm:=tr [(14,28),(30,33),(35,39),(47,50),(52,70),(78,81),(83,101),(134,144),(146,149),(151,162),(194,197)] false [(5,PD 7),(8,PD 7),(12,opp [0,1,8,9,10,11,12,13,14,2,3,4,5,6,7,15]),(13,opp [0,1,2,3,4,5,6,7,8,9,11,12,13,14,10,15]),(18,PD 18),(19,opp [0,1,2,3,4,5,12,13,14,15,6,7,8,9,10,11,16]),(0,PD 7)] 0 Proofs.Tryz.f94
def LM:=BM Xm
theorem oP:Xm=some LM:=Ag (by kernel_rfl)
abbrev aX:=tr [] false [(1,PD 12)] 0 Proofs.Tryz.f95
def O0:=BM aX
theorem AAS:aX=some O0:=Ag (by kernel_rfl)
abbrev Zd:=tr [(8,17)] false [] 0 Proofs.Tryz.f96
def Np:=BM Zd
theorem yE:Zd=some Np:=Ag (by kernel_rfl)
abbrev Vy:=tr [(1,7)] false [] 0 Proofs.Tryz.f98
def J9:=BM Vy
theorem jm:Vy=some J9:=Ag (by kernel_rfl)
abbrev Ye:=tr [(3,7)] true [] 98 Proofs.Tryz.f99
def Lr:=BM Ye
theorem sS:Ye=some Lr:=Ag (by kernel_rfl)
abbrev WE:=tr [(4,24),(26,27),(29,36)] true [] 98 Proofs.Tryz.f100
def J7:=BM WE
theorem je:WE=some J7:=Ag (by kernel_rfl)
abbrev XA:=tr [(5,6),(15,17),(19,25),(27,40),(42,46)] false [(1,PD 10),(8,PD 16)] 0 Proofs.Tryz.f101
def LJ:=BM XA
theorem nO:XA=some LJ:=Ag (by kernel_rfl)
abbrev OG:=tr [(12,19),(21,22),(24,57)] false [] 0 Proofs.Tryz.f102
def IU:=BM OG
theorem VX:OG=some IU:=Ag (by kernel_rfl)
abbrev NY:=tr [(12,19),(21,22),(24,57)] false [] 0 Proofs.Tryz.f103
def IB:=BM NY
theorem VK:NY=some IB:=Ag (by kernel_rfl)
abbrev XW:=tr [(10,19),(25,27),(44,44)] false [(5,opp [0,1,2,3,4,5,6,7,8,9,10,11,13,14,12,15])] 0 Proofs.Tryz.f104
def Kv:=BM XW
theorem oL:XW=some Kv:=Ag (by kernel_rfl)
abbrev Vq:=tr [(11,15),(17,19),(27,27)] false [(4,PD 8)] 0 Proofs.Tryz.f105
def J4:=BM Vq
theorem kY:Vq=some J4:=Ag (by kernel_rfl)
abbrev V5:=tr [(2,5)] false [] 0 Proofs.Tryz.f106
def Ju:=BM V5
theorem jZ:V5=some Ju:=Ag (by kernel_rfl)
abbrev Tn:=tr [(6,10),(12,13),(23,23)] false [(5,PD 10)] 0 Proofs.Tryz.f107
def I5:=BM Tn
theorem bg:Tn=some I5:=Ag (by kernel_rfl)
abbrev LZ:=tr [(11,12),(14,15)] false [(3,PD 24)] 0 Proofs.Tryz.f108
def Gh:=BM LZ
theorem TY:LZ=some Gh:=Ag (by kernel_rfl)
abbrev KU:=tr [(11,12),(14,15)] false [(3,PD 24)] 0 Proofs.Tryz.f109
def Fv:=BM KU
theorem SQ:KU=some Fv:=Ag (by kernel_rfl)
abbrev RZ:=tr [(2,5)] false [] 0 Proofs.Tryz.f110
def Hf:=BM RZ
theorem Zr:RZ=some Hf:=Ag (by kernel_rfl)
abbrev XL:=tr [(9,12),(14,15),(25,25)] false [(4,PD 10)] 0 Proofs.Tryz.f111
def LU:=BM XL
theorem oD:XL=some LU:=Ag (by kernel_rfl)
abbrev QL:=tr [(2,6)] false [] 0 Proofs.Tryz.f112
def GN:=BM QL
theorem X7:QL=some GN:=Ag (by kernel_rfl)
abbrev XM:=tr [(9,15),(20,25),(27,30),(42,46),(48,51),(62,62)] true [(8,PD 15),(16,opp [0,1,2,3,6,7,4,5,8,9])] 98 Proofs.Tryz.f113
def LK:=BM XM
theorem mD:XM=some LK:=Ag (by kernel_rfl)
abbrev Xf:=tr [(5,14),(16,17),(24,26),(28,33)] false [(5,PD 7)] 0 Proofs.Tryz.f114
def Ku:=BM Xf
theorem oO:Xf=some Ku:=Ag (by kernel_rfl)
abbrev Yd:=tr [(5,15),(17,20),(22,26),(32,36),(42,59),(61,63),(65,67),(69,71),(73,75),(77,83),(85,95),(97,98),(100,107)] false [(8,PD 6),(11,PD 6)] 0 Proofs.Tryz.f115
def MG:=BM Yd
theorem qR:Yd=some MG:=Ag (by kernel_rfl)
abbrev WJ:=tr [(8,8),(10,18),(20,24)] false [(6,PD 9)] 0 Proofs.Tryz.f116
def KG:=BM WJ
theorem kU:WJ=some KG:=Ag (by kernel_rfl)
abbrev YA:=tr [(4,12),(14,15),(17,29)] false [] 0 Proofs.Tryz.f117
def MB:=BM YA
theorem sH:YA=some MB:=Ag (by kernel_rfl)
def F:T AF:=(.n none (.n none (.n (some Iz) (.n (some O5) (.n (some JY) (.n (some MX) (.n (some RP) .e .e) (.n (some O0) .e .e)) (.n (some Oy) (.n (some J5) .e .e) (.n (some LU) .e .e))) (.n (some Ez) (.n (some Nj) (.n (some Kw) .e .e) (.n (some IB) .e .e)) (.n (some Nr) .e .e))) (.n (some QG) (.n (some O3) (.n (some QI) (.n (some Yv) .e .e) (.n (some Lr) .e .e)) (.n (some Yz) (.n (some MR) .e .e) (.n (some MG) .e .e))) (.n (some Ep) (.n (some NC) (.n (some Ky) .e .e) (.n (some I5) .e .e)) (.n (some QM) (.n (some Uy) .e .e) .e)))) (.n (some TG) (.n (some U6) (.n (some kP) (.n (some J6) (.n (some Yr) .e .e) .e) (.n (some OA) (.n (some EX) .e .e) (.n (some LK) .e .e))) (.n (some QU) (.n (some Ot) (.n (some EY) .e .e) (.n (some J4) .e .e)) (.n (some LG) (.n (some Gg) .e .e) .e))) (.n (some Nz) (.n (some Bq) (.n (some MP) (.n (some MS) .e .e) (.n (some LJ) .e .e)) (.n (some QO) (.n (some Dx) .e .e) (.n (some MB) .e .e))) (.n (some Nw) (.n (some Dh) (.n (some LH) .e .e) (.n (some Fv) .e .e)) (.n (some L8) (.n (some RN) .e .e) .e))))) (.n none (.n (some VE) (.n (some ku) (.n (some ah) (.n (some NI) (.n (some Y0) .e .e) (.n (some Np) .e .e)) (.n (some DN) (.n (some aI) .e .e) (.n (some GN) .e .e))) (.n (some bT) (.n (some MQ) (.n (some E8) .e .e) (.n (some Kv) .e .e)) (.n (some N7) (.n (some Dq) .e .e) .e))) (.n (some jD) (.n (some E5) (.n (some ML) (.n (some Wq) .e .e) (.n (some J7) .e .e)) (.n (some vG) (.n (some Md) .e .e) (.n (some KG) .e .e))) (.n (some Wp) (.n (some EZ) (.n (some Ea) .e .e) (.n (some Gh) .e .e)) (.n (some MK) (.n (some Ja) .e .e) .e)))) (.n (some U5) (.n (some Oz) (.n (some LD) (.n (some QS) (.n (some Yo) .e .e) (.n (some J9) .e .e)) (.n (some FZ) (.n (some Ec) .e .e) (.n (some Ku) .e .e))) (.n (some N9) (.n (some KF) (.n (some Es) .e .e) (.n (some Ju) .e .e)) (.n (some LQ) (.n (some LC) .e .e) .e))) (.n (some EC) (.n (some RJ) (.n (some ND) (.n (some NG) .e .e) (.n (some IU) .e .e)) (.n (some Ol) (.n (some Gu) .e .e) .e)) (.n (some Ns) (.n (some Nl) (.n (some O6) .e .e) (.n (some Hf) .e .e)) (.n (some Yp) (.n (some LM) .e .e) .e))))))
theorem dI:T.get F 3=some Iz:=by kernel_rfl
theorem AEA:T.get F 5=some TG:=by kernel_rfl
theorem AEy:T.get F 6=some U5:=by kernel_rfl
theorem yg:T.get F 7=some O5:=by kernel_rfl
theorem ANG:T.get F 8=some ku:=by kernel_rfl
theorem AEl:T.get F 9=some U6:=by kernel_rfl
theorem zB:T.get F 10=some Oz:=by kernel_rfl
theorem ABZ:T.get F 11=some QG:=by kernel_rfl
theorem AMf:T.get F 12=some jD:=by kernel_rfl
theorem xZ:T.get F 13=some Nz:=by kernel_rfl
theorem RH:T.get F 14=some EC:=by kernel_rfl
theorem gQ:T.get F 15=some JY:=by kernel_rfl
theorem ALq:T.get F 16=some ah:=by kernel_rfl
theorem AMr:T.get F 17=some kP:=by kernel_rfl
theorem oJ:T.get F 18=some LD:=by kernel_rfl
theorem zN:T.get F 19=some O3:=by kernel_rfl
theorem VY:T.get F 20=some E5:=by kernel_rfl
theorem JU:T.get F 21=some Bq:=by kernel_rfl
theorem ACx:T.get F 22=some RJ:=by kernel_rfl
theorem VR:T.get F 23=some Ez:=by kernel_rfl
theorem AMA:T.get F 24=some bT:=by kernel_rfl
theorem AAl:T.get F 25=some QU:=by kernel_rfl
theorem wI:T.get F 26=some N9:=by kernel_rfl
theorem U0:T.get F 27=some Ep:=by kernel_rfl
theorem AGg:T.get F 28=some Wp:=by kernel_rfl
theorem wM:T.get F 29=some Nw:=by kernel_rfl
theorem xu:T.get F 30=some Ns:=by kernel_rfl
theorem tV:T.get F 31=some MX:=by kernel_rfl
theorem rH:T.get F 32=some NI:=by kernel_rfl
theorem jO:T.get F 33=some J6:=by kernel_rfl
theorem ABu:T.get F 34=some QS:=by kernel_rfl
theorem ABj:T.get F 35=some QI:=by kernel_rfl
theorem tC:T.get F 36=some ML:=by kernel_rfl
theorem vF:T.get F 37=some MP:=by kernel_rfl
theorem qc:T.get F 38=some ND:=by kernel_rfl
theorem wQ:T.get F 39=some Nj:=by kernel_rfl
theorem uS:T.get F 40=some MQ:=by kernel_rfl
theorem zK:T.get F 41=some Ot:=by kernel_rfl
theorem jc:T.get F 42=some KF:=by kernel_rfl
theorem tX:T.get F 43=some NC:=by kernel_rfl
theorem UM:T.get F 44=some EZ:=by kernel_rfl
theorem Pn:T.get F 45=some Dh:=by kernel_rfl
theorem yA:T.get F 46=some Nl:=by kernel_rfl
theorem zT:T.get F 47=some Oy:=by kernel_rfl
theorem Ou:T.get F 48=some DN:=by kernel_rfl
theorem yB:T.get F 49=some OA:=by kernel_rfl
theorem XZ:T.get F 50=some FZ:=by kernel_rfl
theorem AIC:T.get F 51=some Yz:=by kernel_rfl
theorem AQE:T.get F 52=some vG:=by kernel_rfl
theorem ABF:T.get F 53=some QO:=by kernel_rfl
theorem zY:T.get F 54=some Ol:=by kernel_rfl
theorem xM:T.get F 55=some Nr:=by kernel_rfl
theorem wO:T.get F 56=some N7:=by kernel_rfl
theorem oK:T.get F 57=some LG:=by kernel_rfl
theorem oU:T.get F 58=some LQ:=by kernel_rfl
theorem ABk:T.get F 59=some QM:=by kernel_rfl
theorem rO:T.get F 60=some MK:=by kernel_rfl
theorem rC:T.get F 61=some L8:=by kernel_rfl
theorem AIJ:T.get F 62=some Yp:=by kernel_rfl
theorem ACG:T.get F 63=some RP:=by kernel_rfl
theorem AJL:T.get F 64=some Y0:=by kernel_rfl
theorem AJM:T.get F 65=some Yr:=by kernel_rfl
theorem AIN:T.get F 66=some Yo:=by kernel_rfl
theorem AJp:T.get F 67=some Yv:=by kernel_rfl
theorem AGp:T.get F 68=some Wq:=by kernel_rfl
theorem tZ:T.get F 69=some MS:=by kernel_rfl
theorem uJ:T.get F 70=some NG:=by kernel_rfl
theorem mg:T.get F 71=some Kw:=by kernel_rfl
theorem Vj:T.get F 72=some E8:=by kernel_rfl
theorem Ud:T.get F 73=some EY:=by kernel_rfl
theorem Un:T.get F 74=some Es:=by kernel_rfl
theorem mM:T.get F 75=some Ky:=by kernel_rfl
theorem Ue:T.get F 76=some Ea:=by kernel_rfl
theorem nJ:T.get F 77=some LH:=by kernel_rfl
theorem zh:T.get F 78=some O6:=by kernel_rfl
theorem kT:T.get F 79=some J5:=by kernel_rfl
theorem AKT:T.get F 80=some aI:=by kernel_rfl
theorem UN:T.get F 81=some EX:=by kernel_rfl
theorem Ug:T.get F 82=some Ec:=by kernel_rfl
theorem vC:T.get F 83=some MR:=by kernel_rfl
theorem uh:T.get F 84=some Md:=by kernel_rfl
theorem Qs:T.get F 85=some Dx:=by kernel_rfl
theorem QW:T.get F 88=some Dq:=by kernel_rfl
theorem ou:T.get F 90=some LC:=by kernel_rfl
theorem AEc:T.get F 91=some Uy:=by kernel_rfl
theorem fC:T.get F 92=some Ja:=by kernel_rfl
theorem ACw:T.get F 93=some RN:=by kernel_rfl
theorem oC:T.get F 94=some LM:=by kernel_rfl
theorem zM:T.get F 95=some O0:=by kernel_rfl
theorem xJ:T.get F 96=some Np:=by kernel_rfl
theorem G8:T.get F 98=some J9:=by kernel_rfl
theorem qw:T.get F 99=some Lr:=by kernel_rfl
theorem jM:T.get F 100=some J7:=by kernel_rfl
theorem og:T.get F 101=some LJ:=by kernel_rfl
theorem o7:T.get F 104=some Kv:=by kernel_rfl
theorem ji:T.get F 105=some J4:=by kernel_rfl
theorem jF:T.get F 106=some Ju:=by kernel_rfl
theorem dU:T.get F 107=some I5:=by kernel_rfl
theorem ZX:T.get F 110=some Hf:=by kernel_rfl
theorem mV:T.get F 111=some LU:=by kernel_rfl
theorem Xz:T.get F 112=some GN:=by kernel_rfl
theorem mQ:T.get F 113=some LK:=by kernel_rfl
theorem oh:T.get F 114=some Ku:=by kernel_rfl
theorem qU:T.get F 115=some MG:=by kernel_rfl
theorem jJ:T.get F 116=some KG:=by kernel_rfl
theorem sQ:T.get F 117=some MB:=by kernel_rfl
abbrev IZ(n:Nat)(a:AF):Prop:=zX Go.Proofs.Tryz.prog F n a
theorem ok1{n:Nat}{a:AF}{fn:Func}{loc:Nat->Bool}{df:Bool}{ords:AKO}{dg:Nat}(hf:Go.Proofs.Tryz.prog.funcs[n]? =some fn)(ht:trF Go.Proofs.Tryz.prog loc df ords dg fn=some a)(hn:(fn.name== "runtime.NumGoroutine")=false:=by kernel_rfl)(hd:a.dg=dg:=by kernel_rfl)(hi:AMp a.dp=true:=by kernel_rfl):IZ n a:=.one hf hn ht hd hi
theorem ZV:IZ 3 Iz:=ok1 Proofs.Tryz.func3 bZ
theorem wE:IZ 4 VE:=ok1 Proofs.Tryz.func4 AA9
theorem AAx:IZ 5 TG:=ok1 Proofs.Tryz.func5 AD8
theorem ACr:IZ 6 U5:=ok1 Proofs.Tryz.func6 AGH
theorem qP:IZ 7 O5:=ok1 Proofs.Tryz.func7 zU
theorem AIi:IZ 8 ku:=ok1 Proofs.Tryz.func8 ANe
theorem ACK:IZ 9 U6:=ok1 Proofs.Tryz.func9 AFu
theorem pK:IZ 10 Oz:=ok1 Proofs.Tryz.func10 AAE
theorem xk:IZ 11 QG:=ok1 Proofs.Tryz.func11 AB0
theorem AI9:IZ 12 jD:=ok1 Proofs.Tryz.func12 AN4
theorem oq:IZ 13 Nz:=ok1 Proofs.Tryz.func13 xK
theorem QY:IZ 14 EC:=ok1 Proofs.Tryz.func14 Q8
theorem aC:IZ 15 JY:=ok1 Proofs.Tryz.func15 iC
theorem AG1:IZ 16 ah:=ok1 Proofs.Tryz.func16 ALB
theorem AJk:IZ 17 kP:=ok1 Proofs.Tryz.func17 ANg
theorem iH:IZ 18 LD:=ok1 Proofs.Tryz.func18 mY
theorem uq:IZ 19 O3:=ok1 Proofs.Tryz.func19 AAa
theorem Uj:IZ 20 E5:=ok1 Proofs.Tryz.func20 Vd
theorem Iy:IZ 21 Bq:=ok1 Proofs.Tryz.func21 JR
theorem AAH:IZ 22 RJ:=ok1 Proofs.Tryz.func22 AC0
theorem Ua:IZ 23 Ez:=ok1 Proofs.Tryz.func23 VW
theorem AGt:IZ 24 bT:=ok1 Proofs.Tryz.func24 AL6
theorem wu:IZ 25 QU:=ok1 Proofs.Tryz.func25 ABc
theorem nV:IZ 26 N9:=ok1 Proofs.Tryz.func26 xR
theorem TJ:IZ 27 Ep:=ok1 Proofs.Tryz.func27 VN
theorem AD1:IZ 28 Wp:=ok1 Proofs.Tryz.func28 AGd
theorem o8:IZ 29 Nw:=ok1 Proofs.Tryz.func29 yC
theorem oG:IZ 30 Ns:=ok1 Proofs.Tryz.func30 xB
theorem lC:IZ 31 MX:=ok1 Proofs.Tryz.func31 uT
theorem lH:IZ 32 NI:=ok1 Proofs.Tryz.func32 sK
theorem dL:IZ 33 J6:=ok1 Proofs.Tryz.func33 kL
theorem xQ:IZ 34 QS:=ok1 Proofs.Tryz.func34 AAp
theorem wJ:IZ 35 QI:=ok1 Proofs.Tryz.func35 ABi
theorem kE:IZ 36 ML:=ok1 Proofs.Tryz.func36 qE
theorem jk:IZ 37 MP:=ok1 Proofs.Tryz.func37 rU
theorem jV:IZ 38 ND:=ok1 Proofs.Tryz.func38 qx
theorem l9:IZ 39 Nj:=ok1 Proofs.Tryz.func39 xG
theorem kD:IZ 40 MQ:=ok1 Proofs.Tryz.func40 tK
theorem pG:IZ 41 Ot:=ok1 Proofs.Tryz.func41 zo
theorem dB:IZ 42 KF:=ok1 Proofs.Tryz.func42 jK
theorem lD:IZ 43 NC:=ok1 Proofs.Tryz.func43 sN
theorem SN:IZ 44 EZ:=ok1 Proofs.Tryz.func44 UO
theorem O7:IZ 45 Dh:=ok1 Proofs.Tryz.func45 QC
theorem nT:IZ 46 Nl:=ok1 Proofs.Tryz.func46 xH
theorem qG:IZ 47 Oy:=ok1 Proofs.Tryz.func47 zA
theorem OT:IZ 48 DN:=ok1 Proofs.Tryz.func48 O4
theorem oH:IZ 49 OA:=ok1 Proofs.Tryz.func49 wG
theorem Vf:IZ 50 FZ:=ok1 Proofs.Tryz.func50 Wv
theorem AF0:IZ 51 Yz:=ok1 Proofs.Tryz.func51 AJo
theorem ALa:IZ 52 vG:=ok1 Proofs.Tryz.func52 AQY
theorem wW:IZ 53 QO:=ok1 Proofs.Tryz.func53 AB1
theorem sJ:IZ 54 Ol:=ok1 Proofs.Tryz.func54 AAU
theorem mG:IZ 55 Nr:=ok1 Proofs.Tryz.func55 xA
theorem nU:IZ 56 N7:=ok1 Proofs.Tryz.func56 xE
theorem iD:IZ 57 LG:=ok1 Proofs.Tryz.func57 ng
theorem fH:IZ 58 LQ:=ok1 Proofs.Tryz.func58 ni
theorem wF:IZ 59 QM:=ok1 Proofs.Tryz.func59 ABw
theorem kM:IZ 60 MK:=ok1 Proofs.Tryz.func60 tq
theorem iy:IZ 61 L8:=ok1 Proofs.Tryz.func61 rE
theorem AFs:IZ 62 Yp:=ok1 Proofs.Tryz.func62 AI4
theorem AAD:IZ 63 RP:=ok1 Proofs.Tryz.func63 ACo
theorem AGS:IZ 64 Y0:=ok1 Proofs.Tryz.func64 AIz
theorem AFc:IZ 65 Yr:=ok1 Proofs.Tryz.func65 AIm
theorem AEn:IZ 66 Yo:=ok1 Proofs.Tryz.func66 AIn
theorem AFt:IZ 67 Yv:=ok1 Proofs.Tryz.func67 AJn
theorem ADy:IZ 68 Wq:=ok1 Proofs.Tryz.func68 AGe
theorem jh:IZ 69 MS:=ok1 Proofs.Tryz.func69 qH
theorem jq:IZ 70 NG:=ok1 Proofs.Tryz.func70 uN
theorem iG:IZ 71 Kw:=.two Proofs.Tryz.func71 (by kernel_rfl) nK (by kernel_rfl) G8 (by kernel_rfl)
theorem Ui:IZ 72 E8:=ok1 Proofs.Tryz.func72 VT
theorem SS:IZ 73 EY:=ok1 Proofs.Tryz.func73 UQ
theorem Ti:IZ 74 Es:=ok1 Proofs.Tryz.func74 VB
theorem iF:IZ 75 Ky:=ok1 Proofs.Tryz.func75 nN
theorem Sm:IZ 76 Ea:=ok1 Proofs.Tryz.func76 Ub
theorem fB:IZ 77 LH:=ok1 Proofs.Tryz.func77 nY
theorem qo:IZ 78 O6:=ok1 Proofs.Tryz.func78 yx
theorem cO:IZ 79 J5:=ok1 Proofs.Tryz.func79 jG
theorem AG2:IZ 80 aI:=ok1 Proofs.Tryz.func80 AMC
theorem Si:IZ 81 EX:=ok1 Proofs.Tryz.func81 Um
theorem Sl:IZ 82 Ec:=ok1 Proofs.Tryz.func82 UJ
theorem iw:IZ 83 MR:=ok1 Proofs.Tryz.func83 rG
theorem lI:IZ 84 Md:=ok1 Proofs.Tryz.func84 qM
theorem Po:IZ 85 Dx:=ok1 Proofs.Tryz.func85 Qy
theorem Sr:IZ 86 Gu:=ok1 Proofs.Tryz.func86 UW
theorem PI:IZ 88 Dq:=ok1 Proofs.Tryz.func88 QZ
theorem Rw:IZ 89 Gg:=ok1 Proofs.Tryz.func89 Td
theorem fO:IZ 90 LC:=ok1 Proofs.Tryz.func90 mJ
theorem ACD:IZ 91 Uy:=ok1 Proofs.Tryz.func91 AFb
theorem aF:IZ 92 Ja:=ok1 Proofs.Tryz.func92 gK
theorem zf:IZ 93 RN:=ok1 Proofs.Tryz.func93 ACg
theorem eu:IZ 94 LM:=ok1 Proofs.Tryz.func94 oP
theorem tH:IZ 95 O0:=ok1 Proofs.Tryz.func95 AAS
theorem nH:IZ 96 Np:=ok1 Proofs.Tryz.func96 yE
theorem dK:IZ 98 J9:=ok1 Proofs.Tryz.func98 jm
theorem lG:IZ 99 Lr:=.two Proofs.Tryz.func99 (by kernel_rfl) sS (by kernel_rfl) G8 (by kernel_rfl)
theorem bf:IZ 100 J7:=.two Proofs.Tryz.func100 (by kernel_rfl) je (by kernel_rfl) G8 (by kernel_rfl)
theorem iW:IZ 101 LJ:=ok1 Proofs.Tryz.func101 nO
theorem Ul:IZ 102 IU:=ok1 Proofs.Tryz.func102 VX
theorem TR:IZ 103 IB:=ok1 Proofs.Tryz.func103 VK
theorem gX:IZ 104 Kv:=ok1 Proofs.Tryz.func104 oL
theorem dG:IZ 105 J4:=ok1 Proofs.Tryz.func105 kY
theorem dV:IZ 106 Ju:=ok1 Proofs.Tryz.func106 jZ
theorem Zt:IZ 107 I5:=ok1 Proofs.Tryz.func107 bg
theorem Ro:IZ 108 Gh:=ok1 Proofs.Tryz.func108 TY
theorem RI:IZ 109 Fv:=ok1 Proofs.Tryz.func109 SQ
theorem Xw:IZ 110 Hf:=ok1 Proofs.Tryz.func110 Zr
theorem iU:IZ 111 LU:=ok1 Proofs.Tryz.func111 oD
theorem WT:IZ 112 GN:=ok1 Proofs.Tryz.func112 X7
theorem fM:IZ 113 LK:=.two Proofs.Tryz.func113 (by kernel_rfl) mD (by kernel_rfl) G8 (by kernel_rfl)
theorem iJ:IZ 114 Ku:=ok1 Proofs.Tryz.func114 oO
theorem jP:IZ 115 MG:=ok1 Proofs.Tryz.func115 qR
theorem dH:IZ 116 KG:=ok1 Proofs.Tryz.func116 kU
theorem jd:IZ 117 MB:=ok1 Proofs.Tryz.func117 sH
theorem all_good:T.All (λp af=>zX Go.Proofs.Tryz.prog F p.key af) F:=(.n0 (.n0 (.n1 ZV (.n1 qP (.n1 aC (.n1 lC (.n1 AAD .e .e) (.n1 tH .e .e)) (.n1 qG (.n1 cO .e .e) (.n1 iU .e .e))) (.n1 Ua (.n1 l9 (.n1 iG .e .e) (.n1 TR .e .e)) (.n1 mG .e .e))) (.n1 xk (.n1 uq (.n1 wJ (.n1 AFt .e .e) (.n1 lG .e .e)) (.n1 AF0 (.n1 iw .e .e) (.n1 jP .e .e))) (.n1 TJ (.n1 lD (.n1 iF .e .e) (.n1 Zt .e .e)) (.n1 wF (.n1 ACD .e .e) .e)))) (.n1 AAx (.n1 ACK (.n1 AJk (.n1 dL (.n1 AFc .e .e) .e) (.n1 oH (.n1 Si .e .e) (.n1 fM .e .e))) (.n1 wu (.n1 pG (.n1 SS .e .e) (.n1 dG .e .e)) (.n1 iD (.n1 Rw .e .e) .e))) (.n1 oq (.n1 Iy (.n1 jk (.n1 jh .e .e) (.n1 iW .e .e)) (.n1 wW (.n1 Po .e .e) (.n1 jd .e .e))) (.n1 o8 (.n1 O7 (.n1 fB .e .e) (.n1 RI .e .e)) (.n1 iy (.n1 zf .e .e) .e))))) (.n0 (.n1 wE (.n1 AIi (.n1 AG1 (.n1 lH (.n1 AGS .e .e) (.n1 nH .e .e)) (.n1 OT (.n1 AG2 .e .e) (.n1 WT .e .e))) (.n1 AGt (.n1 kD (.n1 Ui .e .e) (.n1 gX .e .e)) (.n1 nU (.n1 PI .e .e) .e))) (.n1 AI9 (.n1 Uj (.n1 kE (.n1 ADy .e .e) (.n1 bf .e .e)) (.n1 ALa (.n1 lI .e .e) (.n1 dH .e .e))) (.n1 AD1 (.n1 SN (.n1 Sm .e .e) (.n1 Ro .e .e)) (.n1 kM (.n1 aF .e .e) .e)))) (.n1 ACr (.n1 pK (.n1 iH (.n1 xQ (.n1 AEn .e .e) (.n1 dK .e .e)) (.n1 Vf (.n1 Sl .e .e) (.n1 iJ .e .e))) (.n1 nV (.n1 dB (.n1 Ti .e .e) (.n1 dV .e .e)) (.n1 fH (.n1 fO .e .e) .e))) (.n1 QY (.n1 AAH (.n1 jV (.n1 jq .e .e) (.n1 Ul .e .e)) (.n1 sJ (.n1 Sr .e .e) .e)) (.n1 oG (.n1 nT (.n1 qo .e .e) (.n1 Xw .e .e)) (.n1 AFs (.n1 eu .e .e) .e))))))
theorem AYi:AFF Go.Proofs.Tryz.prog F:=.AXl (by kernel_rfl) all_good
end Go.RL
