/- Part of a proof; nothing is assumed. -/
import Derived.Test.YtcjkfmaoahojeaaGreatDoorEngA
import Derived.Test.YtcjkfmaoahojeaaGreatDoorEngF
import Derived.Test.YtcjkfmaoahojeaaGreatDoorProg
import Derived.Test.YtcjkfmaoahojeaaGreatDoorEngG
set_option linter.unusedVariables false
set_option linter.unusedSimpArgs false
noncomputable section
namespace Go.PQ
open Go.Eng
set_option maxRecDepth 100000
abbrev tr(l:List (Nat×Nat))(d:Bool)(o:AI9)(g:Nat)(f:Func):Option AF:=trF Go.Proofs.Tryz.prog (inR l) d o g f
abbrev Vr:=tr [(7,7),(9,10),(12,33)] false [] 0 Proofs.Tryz.f3
def Jt:=Bo Vr
theorem fU:Vr=some Jt:=Ag (by kernel_rfl)
abbrev iK:=tr [(3,41)] false [] 0 Proofs.Tryz.f5
def Qe:=Bo iK
theorem AAS:iK=some Qe:=Ag (by kernel_rfl)
abbrev Xk:=tr [(5,23),(25,25),(30,46),(48,48)] false [] 0 Proofs.Tryz.f6
def LX:=Bo Xk
theorem nR:Xk=some LX:=Ag (by kernel_rfl)
abbrev aP:=tr [(7,13),(15,26),(31,32),(55,56)] false [(9,opp [0,1,2,3,4,6,7,8,9,10,12,13,15,16,5,11,14,17,18,19,20,21,22])] 0 Proofs.Tryz.f7
def O7:=Bo aP
theorem xP:aP=some O7:=Ag (by kernel_rfl)
abbrev fO:=tr [(8,13),(15,20),(25,26),(37,38),(43,44),(53,55)] false [(9,opp [0,1,5,6,2,3,4,7,8,9]),(14,opp [0,2,3,1,4,5,6,7])] 0 Proofs.Tryz.f8
def Qn:=Bo fO
theorem zC:fO=some Qn:=Ag (by kernel_rfl)
abbrev uY:=tr [(8,14),(18,24),(31,32)] false [(3,dY 4),(7,dY 7)] 0 Proofs.Tryz.f9
def Ve:=Bo uY
theorem ADr:uY=some Ve:=Ag (by kernel_rfl)
abbrev fH:=tr [(5,30)] false [] 0 Proofs.Tryz.f10
def Qg:=Bo fH
theorem yO:fH=some Qg:=Ag (by kernel_rfl)
abbrev AFQ:=tr [(8,13),(20,27),(35,40),(42,43)] false [(3,dY 7),(8,dY 8)] 0 Proofs.Tryz.f11
def jd:=Bo AFQ
theorem AJ8:AFQ=some jd:=Ag (by kernel_rfl)
abbrev lD:=tr [(6,41)] false [(3,dY 4),(4,dY 13)] 0 Proofs.Tryz.f12
def SB:=Bo lD
theorem ABh:lD=some SB:=Ag (by kernel_rfl)
abbrev Xi:=tr [(9,14),(20,53),(55,55),(60,63),(65,66)] false [] 0 Proofs.Tryz.f13
def LH:=Bo Xi
theorem mO:Xi=some LH:=Ag (by kernel_rfl)
abbrev bG:=tr [(3,9)] false [] 0 Proofs.Tryz.f14
def PD:=Bo bG
theorem yC:bG=some PD:=Ag (by kernel_rfl)
abbrev Yj:=tr [(6,6),(11,12),(24,25)] false [(5,[(0,.plain),(1,.plain),(2,.plain),(3,.plain),(5,.plain),(6,.plain),(4,.plain),(7,.plain),(8,.plain),(9,.plain),(10,.plain),(11,.wr)])] 0 Proofs.Tryz.f15
def Md:=Bo Yj
theorem rX:Yj=some Md:=Ag (by kernel_rfl)
abbrev aK:=tr [(3,9)] false [] 0 Proofs.Tryz.f16
def O9:=Bo aK
theorem vO:aK=some O9:=Ag (by kernel_rfl)
abbrev lG:=tr [(4,7),(9,14)] false [(4,opp [0,3,4,7,8,1,2,5,6,9,10])] 0 Proofs.Tryz.f17
def SC:=Bo lG
theorem AAi:lG=some SC:=Ag (by kernel_rfl)
abbrev bf:=tr [(12,12),(17,23),(25,39),(49,65),(67,87),(95,100),(102,108),(110,117),(119,130)] false [(21,dY 6),(12,dY 8)] 0 Proofs.Tryz.f18
def PI:=Bo bf
theorem wW:bf=some PI:=Ag (by kernel_rfl)
def I8:AF:=.nat (.AMd 66 5)
abbrev l9:=tr [(3,3),(5,9)] false [] 0 Proofs.Tryz.f20
def Ru:=Bo l9
theorem AAd:l9=some Ru:=Ag (by kernel_rfl)
abbrev bT:=tr [(7,7),(9,9),(14,15),(26,26)] false [(8,[(0,.plain),(1,.plain),(2,.plain),(5,.plain),(6,.plain),(3,.plain),(4,.plain),(7,.plain),(8,.plain),(9,.plain),(10,.wr)]),(10,opp [0,1,2,6,7,10,3,4,5,8,9,11,12,13,14])] 0 Proofs.Tryz.f21
def PU:=Bo bT
theorem vJ:bT=some PU:=Ag (by kernel_rfl)
abbrev ABs:=tr [(8,8),(13,25)] false [] 0 Proofs.Tryz.f22
def Y7:=Bo ABs
theorem AHQ:ABs=some Y7:=Ag (by kernel_rfl)
def Lj:AF:=.nat (.AJk 66 5)
abbrev Xj:=tr [(5,19),(21,32),(34,35),(37,40),(50,57),(59,61),(69,84),(86,88)] false [(11,opp [0,1,2,4,3,5,6,7,8,9]),(15,dY 8)] 0 Proofs.Tryz.f24
def LY:=Bo Xj
theorem mg:Xj=some LY:=Ag (by kernel_rfl)
abbrev bC:=tr [(3,8)] false [] 0 Proofs.Tryz.f25
def O8:=Bo bC
theorem wP:bC=some O8:=Ag (by kernel_rfl)
abbrev Oh:=tr [(6,9),(11,11),(15,15),(25,25)] false [(6,dY 9)] 0 Proofs.Tryz.f26
def FT:=Bo Oh
theorem Vw:Oh=some FT:=Ag (by kernel_rfl)
abbrev EN:=tr [(10,13),(19,29),(31,31)] false [] 0 Proofs.Tryz.f27
def Bf:=Bo EN
theorem IC:EN=some Bf:=Ag (by kernel_rfl)
abbrev aI:=tr [(5,37)] false [] 0 Proofs.Tryz.f28
def PK:=Bo aI
theorem xZ:aI=some PK:=Ag (by kernel_rfl)
abbrev fD:=tr [(24,39),(61,61),(73,75)] false [(0,dY 10),(1,dY 10),(4,dY 11),(5,dY 11),(7,dY 11)] 0 Proofs.Tryz.f29
def QZ:=Bo fD
theorem AAC:fD=some QZ:=Ag (by kernel_rfl)
abbrev gQ:=tr [(9,13),(24,24),(37,37),(49,52),(54,59),(61,68),(70,70),(72,85),(87,87),(89,92),(94,109)] false [(2,dY 10),(4,dY 10),(8,dY 11)] 0 Proofs.Tryz.f30
def Qp:=Bo gQ
theorem yX:gQ=some Qp:=Ag (by kernel_rfl)
abbrev lu:=tr [(7,26),(28,28),(33,38),(40,40)] false [] 0 Proofs.Tryz.f31
def SA:=Bo lu
theorem AA4:lu=some SA:=Ag (by kernel_rfl)
abbrev Yg:=tr [(4,7),(9,15)] false [] 0 Proofs.Tryz.f32
def MO:=Bo Yg
theorem qH:Yg=some MO:=Ag (by kernel_rfl)
abbrev bZ:=tr [(10,21),(23,27),(29,32),(34,37),(39,46),(48,58),(60,61),(72,82),(84,85),(95,99),(101,110),(112,120),(122,128),(130,142),(144,154)] false [(22,dY 10),(29,dY 9)] 0 Proofs.Tryz.f33
def PX:=Bo bZ
theorem vP:bZ=some PX:=Ag (by kernel_rfl)
abbrev AIp:=tr [(3,4)] false [] 0 Proofs.Tryz.f34
def sW:=Bo AIp
theorem AM2:AIp=some sW:=Ag (by kernel_rfl)
def Ye:AF:=.nat .join
abbrev lZ:=tr [(7,10),(13,13),(30,30),(41,41),(54,56),(58,67),(69,69),(84,90),(92,103)] false [(4,opp [0,1,2,3,7,8,11,4,5,6,9,10,12,13,14,15]),(6,opp [0,1,5,2,3,4,6,7,8,9]),(8,opp [0,1,2,6,7,8,9,3,4,5,10,11,12]),(13,opp [0,1,2,6,7,8,9,3,4,5,10,11,12,13])] 0 Proofs.Tryz.f37
def Si:=Bo lZ
theorem ABR:lZ=some Si:=Ag (by kernel_rfl)
def Vs:AF:=.nat .rep
abbrev Y4:=tr [(10,14),(16,18)] false [] 0 Proofs.Tryz.f39
def MZ:=Bo Y4
theorem oP:Y4=some MZ:=Ag (by kernel_rfl)
abbrev Yp:=tr [(5,17),(19,23)] false [] 0 Proofs.Tryz.f40
def MB:=Bo Yp
theorem rZ:Yp=some MB:=Ag (by kernel_rfl)
abbrev Ym:=tr [(5,8),(10,11)] false [] 0 Proofs.Tryz.f41
def MI:=Bo Ym
theorem sO:Ym=some MI:=Ag (by kernel_rfl)
abbrev Zd:=tr [(4,6),(8,12)] false [] 0 Proofs.Tryz.f42
def N8:=Bo Zd
theorem uI:Zd=some N8:=Ag (by kernel_rfl)
abbrev Yi:=tr [(4,4),(6,7)] false [] 0 Proofs.Tryz.f43
def ML:=Bo Yi
theorem sN:Yi=some ML:=Ag (by kernel_rfl)
abbrev aN:=tr [(11,44),(46,46)] false [] 0 Proofs.Tryz.f44
def PS:=Bo aN
theorem yF:aN=some PS:=Ag (by kernel_rfl)
abbrev WQ:=tr [(6,12),(17,34),(36,38),(40,44),(54,62)] false [(2,opp [0,1,4,2,3,5]),(11,opp [0,1,2,4,3,5,6,7,8,9])] 0 Proofs.Tryz.f45
def KU:=Bo WQ
theorem kK:WQ=some KU:=Ag (by kernel_rfl)
abbrev Yh:=tr [(4,8),(10,21)] false [] 0 Proofs.Tryz.f46
def NT:=Bo Yh
theorem qy:Yh=some NT:=Ag (by kernel_rfl)
abbrev Eo:=tr [(10,13),(19,29),(31,31)] false [] 0 Proofs.Tryz.f47
def CU:=Bo Eo
theorem Jm:Eo=some CU:=Ag (by kernel_rfl)
abbrev lX:=tr [(5,44)] false [] 0 Proofs.Tryz.f48
def Sl:=Bo lX
theorem ABd:lX=some Sl:=Ag (by kernel_rfl)
abbrev gy:=tr [(7,15),(26,43)] false [(3,dY 10)] 0 Proofs.Tryz.f49
def Qq:=Bo gy
theorem AAT:gy=some Qq:=Ag (by kernel_rfl)
abbrev Yw:=tr [(5,7)] false [] 0 Proofs.Tryz.f50
def ND:=Bo Yw
theorem qO:Yw=some ND:=Ag (by kernel_rfl)
abbrev Yv:=tr [(5,7)] false [] 0 Proofs.Tryz.f51
def NG:=Bo Yv
theorem pq:Yv=some NG:=Ag (by kernel_rfl)
abbrev AB5:=tr [(3,8)] false [] 0 Proofs.Tryz.f52
def ZB:=Bo AB5
theorem AGr:AB5=some ZB:=Ag (by kernel_rfl)
abbrev lY:=tr [(33,34)] false [(2,dY 27),(4,dY 16)] 0 Proofs.Tryz.f53
def SI:=Bo lY
theorem AAk:lY=some SI:=Ag (by kernel_rfl)
abbrev ABt:=tr [(3,16)] false [] 0 Proofs.Tryz.f54
def ZK:=Bo ABt
theorem AGe:ABt=some ZK:=Ag (by kernel_rfl)
abbrev ACF:=tr [(3,8)] false [] 0 Proofs.Tryz.f55
def ZF:=Bo ACF
theorem AF2:ACF=some ZF:=Ag (by kernel_rfl)
abbrev ACG:=tr [(5,25)] false [] 0 Proofs.Tryz.f56
def ZG:=Bo ACG
theorem AFp:ACG=some ZG:=Ag (by kernel_rfl)
abbrev ABm:=tr [(3,8)] false [] 0 Proofs.Tryz.f57
def ZL:=Bo ABm
theorem AGK:ABm=some ZL:=Ag (by kernel_rfl)
abbrev yg:=tr [(7,7),(12,20),(22,23)] false [] 0 Proofs.Tryz.f58
def XQ:=Bo yg
theorem AEg:yg=some XQ:=Ag (by kernel_rfl)
abbrev Y5:=tr [(5,11),(13,13)] false [(3,dY 13)] 0 Proofs.Tryz.f59
def MN:=Bo Y5
theorem pO:Y5=some MN:=Ag (by kernel_rfl)
abbrev lU:=tr [(3,5)] false [] 0 Proofs.Tryz.f60
def SY:=Bo lU
theorem ABB:lU=some SY:=Ag (by kernel_rfl)
abbrev lH:=tr [(5,8),(10,15)] false [] 0 Proofs.Tryz.f63
def SK:=Bo lH
theorem ABA:lH=some SK:=Ag (by kernel_rfl)
abbrev Yr:=tr [(4,11),(13,21)] false [] 0 Proofs.Tryz.f66
def NR:=Bo Yr
theorem oQ:Yr=some NR:=Ag (by kernel_rfl)
abbrev Yq:=tr [(4,6),(8,13)] false [] 0 Proofs.Tryz.f67
def NK:=Bo Yq
theorem pG:Yq=some NK:=Ag (by kernel_rfl)
abbrev Xn:=tr [(4,14),(16,21)] true [] 87 Proofs.Tryz.f68
def Kz:=Bo Xn
theorem mX:Xn=some Kz:=Ag (by kernel_rfl)
abbrev Es:=tr [(10,13),(19,29),(31,31)] false [] 0 Proofs.Tryz.f69
def CV:=Bo Es
theorem Jo:Es=some CV:=Ag (by kernel_rfl)
abbrev lS:=tr [(5,37)] false [] 0 Proofs.Tryz.f70
def Rw:=Bo lS
theorem ABX:lS=some Rw:=Ag (by kernel_rfl)
abbrev NC:=tr [(5,17)] false [] 0 Proofs.Tryz.f71
def Ey:=Bo NC
theorem U7:NC=some Ey:=Ag (by kernel_rfl)
abbrev MX:=tr [(5,7)] false [] 0 Proofs.Tryz.f72
def Ew:=Bo MX
theorem U9:MX=some Ew:=Ag (by kernel_rfl)
abbrev lq:=tr [(3,3),(6,9),(11,11),(13,13),(15,15),(17,19),(21,21),(29,29),(43,43),(58,63),(65,65),(76,76),(85,88),(90,94),(96,100),(102,102),(116,116),(126,126),(136,136),(147,147)] false [(13,opp [0,3,4,1,2,5,6]),(15,opp [0,3,4,7,1,2,5,6,8,9,10,11,12]),(17,dY 14),(21,dY 10),(23,opp [0,3,1,2,4,5,6,7]),(31,opp [0,4,5,8,1,2,3,6,7,9,10,11,12]),(33,opp [0,4,1,2,3,5,6,7,8]),(35,opp [0,4,1,2,3,5,6,7,8]),(37,opp [0,4,5,6,1,2,3,7,8,9]),(39,opp [0,4,5,6,1,2,3,7,8,9])] 0 Proofs.Tryz.f74
def SV:=Bo lq
theorem AAh:lq=some SV:=Ag (by kernel_rfl)
abbrev AE2:=tr [(1,1)] false [] 0 Proofs.Tryz.f77
def jo:=Bo AE2
theorem AKj:AE2=some jo:=Ag (by kernel_rfl)
abbrev ADY:=tr [(1,1)] false [] 0 Proofs.Tryz.f78
def aZ:=Bo ADY
theorem AHa:ADY=some aZ:=Ag (by kernel_rfl)
abbrev Yk:=tr [(3,13),(15,17)] false [] 0 Proofs.Tryz.f79
def MG:=Bo Yk
theorem sD:Yk=some MG:=Ag (by kernel_rfl)
abbrev Yz:=tr [(4,13),(15,30),(32,36),(38,48),(50,56),(58,68)] false [] 0 Proofs.Tryz.f80
def NJ:=Bo Yz
theorem nZ:Yz=some NJ:=Ag (by kernel_rfl)
abbrev Yu:=tr [(5,7)] false [] 0 Proofs.Tryz.f83
def NP:=Bo Yu
theorem rF:Yu=some NP:=Ag (by kernel_rfl)
abbrev sS:=tr [(5,8),(10,15)] false [] 0 Proofs.Tryz.f84
def Ub:=Bo sS
theorem ACR:sS=some Ub:=Ag (by kernel_rfl)
abbrev ADs:=tr [(10,19)] false [] 0 Proofs.Tryz.f85
def au:=Bo ADs
theorem AIE:ADs=some au:=Ag (by kernel_rfl)
abbrev lF:=tr [(3,9)] false [] 0 Proofs.Tryz.f86
def Rq:=Bo lF
theorem AAl:lF=some Rq:=Ag (by kernel_rfl)
abbrev WB:=tr [(1,7)] false [] 0 Proofs.Tryz.f87
def KW:=Bo WB
theorem kM:WB=some KW:=Ag (by kernel_rfl)
abbrev Yn:=tr [(3,7)] true [] 87 Proofs.Tryz.f88
def MK:=Bo Yn
theorem qp:Yn=some MK:=Ag (by kernel_rfl)
abbrev WI:=tr [(4,24),(26,27),(29,36)] true [] 87 Proofs.Tryz.f89
def KO:=Bo WI
theorem iR:WI=some KO:=Ag (by kernel_rfl)
abbrev Xt:=tr [(5,6),(15,17),(19,25),(27,40),(42,46)] false [(1,dY 10),(8,dY 16)] 0 Proofs.Tryz.f90
def LP:=Bo Xt
theorem mP:Xt=some LP:=Ag (by kernel_rfl)
abbrev Po:=tr [(8,8),(10,10),(12,16),(18,22),(24,33),(35,53)] false [] 0 Proofs.Tryz.f91
def F6:=Bo Po
theorem Xv:Po=some F6:=Ag (by kernel_rfl)
abbrev WT:=tr [(11,15),(17,19),(27,27)] false [(4,dY 8)] 0 Proofs.Tryz.f92
def KN:=Bo WT
theorem ig:WT=some KN:=Ag (by kernel_rfl)
abbrev V7:=tr [(2,5)] false [] 0 Proofs.Tryz.f93
def KY:=Bo V7
theorem jK:V7=some KY:=Ag (by kernel_rfl)
abbrev U2:=tr [(6,10),(12,13),(23,23)] false [(5,dY 10)] 0 Proofs.Tryz.f94
def JF:=Bo U2
theorem eU:U2=some JF:=Ag (by kernel_rfl)
abbrev Tn:=tr [(3,3),(5,14)] false [] 0 Proofs.Tryz.f95
def Ik:=Bo Tn
theorem Z8:Tn=some Ik:=Ag (by kernel_rfl)
abbrev P9:=tr [(4,14)] false [] 0 Proofs.Tryz.f96
def GH:=Bo P9
theorem Xl:P9=some GH:=Ag (by kernel_rfl)
abbrev Nl:=tr [(17,19),(21,41),(94,98),(100,109),(136,138),(140,144),(158,160),(162,166)] false [(7,dY 15),(8,dY 15),(9,dY 15),(10,dY 15),(17,dY 15),(18,dY 15),(23,dY 15)] 0 Proofs.Tryz.f97
def FH:=Bo Nl
theorem VL:Nl=some FH:=Ag (by kernel_rfl)
abbrev Ox:=tr [(19,27),(29,29),(31,33),(35,45),(47,67),(69,88),(90,93),(95,101)] false [] 0 Proofs.Tryz.f98
def I7:=Bo Ox
theorem XA:Ox=some I7:=Ag (by kernel_rfl)
abbrev TA:=tr [(2,5)] false [] 0 Proofs.Tryz.f99
def IV:=Bo TA
theorem Za:TA=some IV:=Ag (by kernel_rfl)
abbrev Xr:=tr [(9,12),(14,15),(25,25)] false [(4,dY 10)] 0 Proofs.Tryz.f100
def LK:=Bo Xr
theorem mD:Xr=some LK:=Ag (by kernel_rfl)
abbrev Qk:=tr [(2,6)] false [] 0 Proofs.Tryz.f101
def Gq:=Bo Qk
theorem YL:Qk=some Gq:=Ag (by kernel_rfl)
abbrev YF:=tr [(9,15),(20,25),(27,30),(42,46),(48,51),(62,62)] true [(8,dY 15),(16,opp [0,1,2,3,6,7,4,5,8,9])] 87 Proofs.Tryz.f102
def LZ:=Bo YF
theorem nD:YF=some LZ:=Ag (by kernel_rfl)
abbrev Px:=tr [(3,5)] false [] 0 Proofs.Tryz.f103
def F7:=Bo Px
theorem YE:Px=some F7:=Ag (by kernel_rfl)
abbrev aY:=tr [(3,3),(5,7),(9,13),(15,24)] false [] 0 Proofs.Tryz.f104
def PG:=Bo aY
theorem wI:aY=some PG:=Ag (by kernel_rfl)
abbrev QE:=tr [] false [] 0 Proofs.Tryz.f105
def F5:=Bo QE
theorem X3:QE=some F5:=Ag (by kernel_rfl)
abbrev Nr:=tr [(3,7)] false [] 0 Proofs.Tryz.f106
def IU:=Bo Nr
theorem Vb:Nr=some IU:=Ag (by kernel_rfl)
abbrev TG:=tr [(3,7)] false [] 0 Proofs.Tryz.f107
def Kw:=Bo TG
theorem Zq:TG=some Kw:=Ag (by kernel_rfl)
abbrev YB:=tr [(5,14),(16,17),(24,26),(28,33)] false [(5,dY 7)] 0 Proofs.Tryz.f108
def La:=Bo YB
theorem nX:YB=some La:=Ag (by kernel_rfl)
abbrev Qj:=tr [(3,3),(5,13)] false [] 0 Proofs.Tryz.f109
def J5:=Bo Qj
theorem Yf:Qj=some J5:=Ag (by kernel_rfl)
abbrev Ql:=tr [(3,3),(5,13)] false [] 0 Proofs.Tryz.f110
def J4:=Bo Ql
theorem YQ:Ql=some J4:=Ag (by kernel_rfl)
abbrev Y2:=tr [(5,15),(17,20),(22,26),(32,36),(42,59),(61,63),(65,67),(69,71),(73,75),(77,83),(85,95),(97,98),(100,107)] false [(8,dY 6),(11,dY 6)] 0 Proofs.Tryz.f111
def NM:=Bo Y2
theorem qE:Y2=some NM:=Ag (by kernel_rfl)
abbrev WJ:=tr [(8,8),(10,18),(20,24)] false [(6,dY 9)] 0 Proofs.Tryz.f112
def KJ:=Bo WJ
theorem jJ:WJ=some KJ:=Ag (by kernel_rfl)
abbrev Yy:=tr [(4,12),(14,15),(17,29)] false [] 0 Proofs.Tryz.f113
def MF:=Bo Yy
theorem oV:Yy=some MF:=Ag (by kernel_rfl)
abbrev fG:=tr [(3,22)] false [] 0 Proofs.Tryz.f114
def Qo:=Bo fG
theorem yV:fG=some Qo:=Ag (by kernel_rfl)
def F:T AF:=(.n none (.n none (.n (some Jt) (.n (some O7) (.n (some Md) (.n (some SA) (.n (some SK) .e .e) (.n (some Ik) .e .e)) (.n (some CU) (.n (some MG) .e .e) (.n (some NM) .e .e))) (.n (some Lj) (.n (some MZ) (.n (some Ey) .e .e) (.n (some F7) .e .e)) (.n (some ZF) (.n (some KW) .e .e) .e))) (.n (some jd) (.n (some I8) (.n none (.n (some NK) .e .e) (.n (some IV) .e .e)) (.n (some NG) (.n (some NP) .e .e) .e)) (.n (some Bf) (.n (some ML) .e (.n (some Kw) .e .e)) (.n (some MN) (.n (some F6) .e .e) .e)))) (.n (some Qe) (.n (some Ve) (.n (some SC) (.n (some PX) .e (.n (some FH) .e .e)) (.n (some Qq) .e (.n (some MF) .e .e))) (.n (some O8) (.n (some MI) .e (.n (some F5) .e .e)) (.n (some ZL) (.n (some KO) .e .e) .e))) (.n (some LH) (.n (some PU) (.n (some Si) (.n (some CV) .e .e) (.n (some Gq) .e .e)) (.n (some SI) (.n (some au) .e .e) .e)) (.n (some QZ) (.n (some KU) (.n (some jo) .e .e) (.n (some J5) .e .e)) (.n none (.n (some KY) .e .e) .e))))) (.n none (.n none (.n (some Qn) (.n (some O9) (.n (some MO) .e (.n (some GH) .e .e)) (.n (some Sl) (.n (some NJ) .e .e) (.n (some KJ) .e .e))) (.n (some LY) (.n (some MB) (.n (some Ew) .e .e) (.n (some PG) .e .e)) (.n (some ZG) (.n (some MK) .e .e) .e))) (.n (some SB) (.n (some Ru) (.n (some Ye) (.n (some Kz) .e .e) (.n (some LK) .e .e)) (.n (some ZB) (.n (some Ub) .e .e) .e)) (.n (some PK) (.n (some PS) .e (.n (some La) .e .e)) (.n (some SY) (.n (some KN) .e .e) .e)))) (.n (some LX) (.n (some Qg) (.n (some PI) (.n (some sW) (.n (some NR) .e .e) (.n (some I7) .e .e)) (.n (some ND) .e (.n (some Qo) .e .e))) (.n (some FT) (.n (some N8) (.n (some SV) .e .e) (.n (some IU) .e .e)) (.n (some XQ) (.n (some LP) .e .e) .e))) (.n (some PD) (.n (some Y7) (.n (some Vs) (.n (some Rw) .e .e) (.n (some LZ) .e .e)) (.n (some ZK) (.n (some Rq) .e .e) .e)) (.n (some Qp) (.n (some NT) (.n (some aZ) .e .e) (.n (some J4) .e .e)) (.n none (.n (some JF) .e .e) .e))))))
theorem Oa:T.get F 3=some Jt:=by kernel_rfl
theorem Vo:T.get F 5=some Qe:=by kernel_rfl
theorem QV:T.get F 6=some LX:=by kernel_rfl
theorem Ue:T.get F 7=some O7:=by kernel_rfl
theorem Vt:T.get F 8=some Qn:=by kernel_rfl
theorem Zf:T.get F 9=some Ve:=by kernel_rfl
theorem Vm:T.get F 10=some Qg:=by kernel_rfl
theorem xA:T.get F 11=some jd:=by kernel_rfl
theorem WX:T.get F 12=some SB:=by kernel_rfl
theorem QW:T.get F 13=some LH:=by kernel_rfl
theorem Ul:T.get F 14=some PD:=by kernel_rfl
theorem Rh:T.get F 15=some Md:=by kernel_rfl
theorem Ut:T.get F 16=some O9:=by kernel_rfl
theorem Wq:T.get F 17=some SC:=by kernel_rfl
theorem Uf:T.get F 18=some PI:=by kernel_rfl
theorem Wj:T.get F 19=some I8:=by kernel_rfl
theorem WU:T.get F 20=some Ru:=by kernel_rfl
theorem Uh:T.get F 21=some PU:=by kernel_rfl
theorem iQ:T.get F 22=some Y7:=by kernel_rfl
theorem aA:T.get F 23=some Lj:=by kernel_rfl
theorem QJ:T.get F 24=some LY:=by kernel_rfl
theorem Us:T.get F 25=some O8:=by kernel_rfl
theorem Ia:T.get F 26=some FT:=by kernel_rfl
theorem DI:T.get F 27=some Bf:=by kernel_rfl
theorem Ux:T.get F 28=some PK:=by kernel_rfl
theorem VI:T.get F 29=some QZ:=by kernel_rfl
theorem VZ:T.get F 30=some Qp:=by kernel_rfl
theorem XD:T.get F 31=some SA:=by kernel_rfl
theorem Q9:T.get F 32=some MO:=by kernel_rfl
theorem Ud:T.get F 33=some PX:=by kernel_rfl
theorem gI:T.get F 34=some sW:=by kernel_rfl
theorem ACZ:T.get F 36=some Ye:=by kernel_rfl
theorem Cj:T.get F 37=some Si:=by kernel_rfl
theorem zA:T.get F 38=some Vs:=by kernel_rfl
theorem Qx:T.get F 39=some MZ:=by kernel_rfl
theorem RX:T.get F 40=some MB:=by kernel_rfl
theorem Q8:T.get F 41=some MI:=by kernel_rfl
theorem TQ:T.get F 42=some N8:=by kernel_rfl
theorem RZ:T.get F 43=some ML:=by kernel_rfl
theorem Uo:T.get F 44=some PS:=by kernel_rfl
theorem Ph:T.get F 45=some KU:=by kernel_rfl
theorem RG:T.get F 46=some NT:=by kernel_rfl
theorem Dk:T.get F 47=some CU:=by kernel_rfl
theorem XL:T.get F 48=some Sl:=by kernel_rfl
theorem Vf:T.get F 49=some Qq:=by kernel_rfl
theorem RH:T.get F 50=some ND:=by kernel_rfl
theorem Rn:T.get F 51=some NG:=by kernel_rfl
theorem kL:T.get F 52=some ZB:=by kernel_rfl
theorem Wp:T.get F 53=some SI:=by kernel_rfl
theorem jT:T.get F 54=some ZK:=by kernel_rfl
theorem jO:T.get F 55=some ZF:=by kernel_rfl
theorem iW:T.get F 56=some ZG:=by kernel_rfl
theorem kJ:T.get F 57=some ZL:=by kernel_rfl
theorem dN:T.get F 58=some XQ:=by kernel_rfl
theorem Jg:T.get F 59=some MN:=by kernel_rfl
theorem XF:T.get F 60=some SY:=by kernel_rfl
theorem Wu:T.get F 63=some SK:=by kernel_rfl
theorem RJ:T.get F 66=some NR:=by kernel_rfl
theorem Ro:T.get F 67=some NK:=by kernel_rfl
theorem QN:T.get F 68=some Kz:=by kernel_rfl
theorem Dj:T.get F 69=some CV:=by kernel_rfl
theorem W9:T.get F 70=some Rw:=by kernel_rfl
theorem Ho:T.get F 71=some Ey:=by kernel_rfl
theorem Hl:T.get F 72=some Ew:=by kernel_rfl
theorem Af:T.get F 74=some SV:=by kernel_rfl
theorem xX:T.get F 77=some jo:=by kernel_rfl
theorem rU:T.get F 78=some aZ:=by kernel_rfl
theorem Q5:T.get F 79=some MG:=by kernel_rfl
theorem RV:T.get F 80=some NJ:=by kernel_rfl
theorem RI:T.get F 83=some NP:=by kernel_rfl
theorem YU:T.get F 84=some Ub:=by kernel_rfl
theorem rH:T.get F 85=some au:=by kernel_rfl
theorem WW:T.get F 86=some Rq:=by kernel_rfl
theorem Ej:T.get F 87=some KW:=by kernel_rfl
theorem Rf:T.get F 88=some MK:=by kernel_rfl
theorem O1:T.get F 89=some KO:=by kernel_rfl
theorem QT:T.get F 90=some LP:=by kernel_rfl
theorem JR:T.get F 91=some F6:=by kernel_rfl
theorem O4:T.get F 92=some KN:=by kernel_rfl
theorem PY:T.get F 93=some KY:=by kernel_rfl
theorem NU:T.get F 94=some JF:=by kernel_rfl
theorem Ll:T.get F 95=some Ik:=by kernel_rfl
theorem Ja:T.get F 96=some GH:=by kernel_rfl
theorem IE:T.get F 97=some FH:=by kernel_rfl
theorem Kr:T.get F 99=some IV:=by kernel_rfl
theorem QG:T.get F 100=some LK:=by kernel_rfl
theorem Jz:T.get F 101=some Gq:=by kernel_rfl
theorem QI:T.get F 102=some LZ:=by kernel_rfl
theorem Jd:T.get F 103=some F7:=by kernel_rfl
theorem Ur:T.get F 104=some PG:=by kernel_rfl
theorem JV:T.get F 105=some F5:=by kernel_rfl
theorem QL:T.get F 108=some La:=by kernel_rfl
theorem RF:T.get F 111=some NM:=by kernel_rfl
theorem PN:T.get F 112=some KJ:=by kernel_rfl
theorem Qy:T.get F 113=some MF:=by kernel_rfl
theorem Vh:T.get F 114=some Qo:=by kernel_rfl
end Go.PQ
namespace Go.Proofs
open Go.Shelf
def Tryz.lays105_ren:Go.Shelf.Ren:=⟨λ|105=>38|212=>64|99=>50|165=>62|166=>19|170=>65|169=>23|263=>75|264=>76|206=>71|240=>35|241=>73|276=>61|277=>82|n=>n,λ|9=>9|3=>3|4=>4|20=>20|0=>0|46=>115|109=>116|5=>5|72=>66|76=>69|51=>124|146=>125|53=>127|148=>128|70=>63|37=>64|75=>68|127=>94|164=>113|80=>31|n=>n,λ|n=>n⟩
theorem Tryz.lays105:Go.Proofs.Lays.n105 Tryz.prog Tryz.lays105_ren:={
 mixed:=by kernel_rfl
 f99:=Tryz.func50.trans (congrArg some (by kernel_rfl))
 f105:=Tryz.func38.trans (congrArg some (by kernel_rfl))
 f165:=Tryz.func62.trans (congrArg some (by kernel_rfl))
 f166:=Tryz.func19.trans (congrArg some (by kernel_rfl))
 f169:=Tryz.func23.trans (congrArg some (by kernel_rfl))
 f170:=Tryz.func65.trans (congrArg some (by kernel_rfl))
 f206:=Tryz.func71.trans (congrArg some (by kernel_rfl))
 f212:=Tryz.func64.trans (congrArg some (by kernel_rfl))
 f240:=Tryz.func35.trans (congrArg some (by kernel_rfl))
 f241:=Tryz.func73.trans (congrArg some (by kernel_rfl))
 f263:=Tryz.func75.trans (congrArg some (by kernel_rfl))
 f264:=Tryz.func76.trans (congrArg some (by kernel_rfl))
 f276:=Tryz.func61.trans (congrArg some (by kernel_rfl))
 f277:=Tryz.func82.trans (congrArg some (by kernel_rfl))
 t0:=Tryz.underlying0
 a0:=Tryz.isAgg0
 z0:=Tryz.sizeOf0
 v0:=Tryz.zeroValue0
 t3:=Tryz.underlying3
 a3:=Tryz.isAgg3
 z3:=Tryz.sizeOf3
 v3:=Tryz.zeroValue3
 t4:=Tryz.underlying4
 a4:=Tryz.isAgg4
 z4:=Tryz.sizeOf4
 v4:=Tryz.zeroValue4
 t5:=Tryz.underlying5
 a5:=Tryz.isAgg5
 z5:=Tryz.sizeOf5
 v5:=Tryz.zeroValue5
 t9:=Tryz.underlying9
 a9:=Tryz.isAgg9
 z9:=Tryz.sizeOf9
 v9:=Tryz.zeroValue9
 t20:=Tryz.underlying20
 a20:=Tryz.isAgg20
 z20:=Tryz.sizeOf20
 v20:=Tryz.zeroValue20
 t37:=Tryz.underlying64
 a37:=Tryz.isAgg64
 z37:=Tryz.sizeOf64
 v37:=Tryz.zeroValue64
 t46:=Tryz.underlying115
 a46:=Tryz.isAgg115
 z46:=Tryz.sizeOf115
 v46:=Tryz.zeroValue115
 t51:=Tryz.underlying124
 a51:=Tryz.isAgg124
 z51:=Tryz.sizeOf124
 v51:=Tryz.zeroValue124
 t53:=Tryz.underlying127
 a53:=Tryz.isAgg127
 z53:=Tryz.sizeOf127
 v53:=Tryz.zeroValue127
 t70:=Tryz.underlying63
 a70:=Tryz.isAgg63
 z70:=Tryz.sizeOf63
 v70:=Tryz.zeroValue63
 t72:=Tryz.underlying66
 a72:=Tryz.isAgg66
 z72:=Tryz.sizeOf66
 v72:=Tryz.zeroValue66
 t75:=Tryz.underlying68
 a75:=Tryz.isAgg68
 z75:=Tryz.sizeOf68
 v75:=Tryz.zeroValue68
 t76:=Tryz.underlying69
 a76:=Tryz.isAgg69
 z76:=Tryz.sizeOf69
 v76:=Tryz.zeroValue69
 t109:=Tryz.underlying116
 a109:=Tryz.isAgg116
 z109:=Tryz.sizeOf116
 v109:=Tryz.zeroValue116
 t127:=Tryz.underlying94
 a127:=Tryz.isAgg94
 z127:=Tryz.sizeOf94
 v127:=Tryz.zeroValue94
 t146:=Tryz.underlying125
 a146:=Tryz.isAgg125
 z146:=Tryz.sizeOf125
 v146:=Tryz.zeroValue125
 t148:=Tryz.underlying128
 a148:=Tryz.isAgg128
 z148:=Tryz.sizeOf128
 v148:=Tryz.zeroValue128
 t164:=Tryz.underlying113
 a164:=Tryz.isAgg113
 z164:=Tryz.sizeOf113
 v164:=Tryz.zeroValue113}
theorem Tryz.Builder_Extra_105:Builder.Extra Tryz.prog Tryz.lays105_ren:={
 sizeBuilder:=by kernel_rfl
 liesBuilder:=by kernel_rfl
 t5:=Tryz.underlying5
 a5:=Tryz.isAgg5
 z5:=Tryz.sizeOf5
 v5:=Tryz.zeroValue5
 infoByte:=by kernel_rfl
 cellsByte:=by kernel_rfl
 sizeByte:=by kernel_rfl
 neB5:=by decide}
def Tryz.lays156_ren:Go.Shelf.Ren:=⟨λ|156=>36|165=>62|166=>19|169=>23|240=>35|241=>73|276=>61|277=>82|n=>n,λ|31=>40|9=>9|3=>3|4=>4|0=>0|20=>20|72=>66|76=>69|70=>63|37=>64|75=>68|127=>94|164=>113|5=>5|80=>31|n=>n,λ|n=>n⟩
theorem Tryz.lays156:Go.Proofs.Lays.n156 Tryz.prog Tryz.lays156_ren:={
 mixed:=by kernel_rfl
 f156:=Tryz.func36.trans (congrArg some (by kernel_rfl))
 f165:=Tryz.func62.trans (congrArg some (by kernel_rfl))
 f166:=Tryz.func19.trans (congrArg some (by kernel_rfl))
 f169:=Tryz.func23.trans (congrArg some (by kernel_rfl))
 f240:=Tryz.func35.trans (congrArg some (by kernel_rfl))
 f241:=Tryz.func73.trans (congrArg some (by kernel_rfl))
 f276:=Tryz.func61.trans (congrArg some (by kernel_rfl))
 f277:=Tryz.func82.trans (congrArg some (by kernel_rfl))
 t0:=Tryz.underlying0
 a0:=Tryz.isAgg0
 z0:=Tryz.sizeOf0
 v0:=Tryz.zeroValue0
 t3:=Tryz.underlying3
 a3:=Tryz.isAgg3
 z3:=Tryz.sizeOf3
 v3:=Tryz.zeroValue3
 t4:=Tryz.underlying4
 a4:=Tryz.isAgg4
 z4:=Tryz.sizeOf4
 v4:=Tryz.zeroValue4
 t9:=Tryz.underlying9
 a9:=Tryz.isAgg9
 z9:=Tryz.sizeOf9
 v9:=Tryz.zeroValue9
 t20:=Tryz.underlying20
 a20:=Tryz.isAgg20
 z20:=Tryz.sizeOf20
 v20:=Tryz.zeroValue20
 t31:=Tryz.underlying40
 a31:=Tryz.isAgg40
 z31:=Tryz.sizeOf40
 v31:=Tryz.zeroValue40
 t37:=Tryz.underlying64
 a37:=Tryz.isAgg64
 z37:=Tryz.sizeOf64
 v37:=Tryz.zeroValue64
 t70:=Tryz.underlying63
 a70:=Tryz.isAgg63
 z70:=Tryz.sizeOf63
 v70:=Tryz.zeroValue63
 t72:=Tryz.underlying66
 a72:=Tryz.isAgg66
 z72:=Tryz.sizeOf66
 v72:=Tryz.zeroValue66
 t75:=Tryz.underlying68
 a75:=Tryz.isAgg68
 z75:=Tryz.sizeOf68
 v75:=Tryz.zeroValue68
 t76:=Tryz.underlying69
 a76:=Tryz.isAgg69
 z76:=Tryz.sizeOf69
 v76:=Tryz.zeroValue69
 t127:=Tryz.underlying94
 a127:=Tryz.isAgg94
 z127:=Tryz.sizeOf94
 v127:=Tryz.zeroValue94
 t164:=Tryz.underlying113
 a164:=Tryz.isAgg113
 z164:=Tryz.sizeOf113
 v164:=Tryz.zeroValue113}
theorem Tryz.Builder_Extra_156:Builder.Extra Tryz.prog Tryz.lays156_ren:={
 sizeBuilder:=by kernel_rfl
 liesBuilder:=by kernel_rfl
 t5:=Tryz.underlying5
 a5:=Tryz.isAgg5
 z5:=Tryz.sizeOf5
 v5:=Tryz.zeroValue5
 infoByte:=by kernel_rfl
 cellsByte:=by kernel_rfl
 sizeByte:=by kernel_rfl
 neB5:=by decide}
end Go.Proofs
namespace Go.PQ
open Go.Eng Go.Proofs Go.Shelf
set_option maxRecDepth 100000
theorem Vy:uT Tryz.prog 19 (.AMd 66 5):=Go.Eng.APf (P:=Tryz.prog) (r:=Tryz.lays156_ren) ⟨Tryz.f19,Tryz.func19,by kernel_rfl,by kernel_rfl⟩ {Tryz.lays156 with} Tryz.Builder_Extra_156
theorem Zl:uT Tryz.prog 23 (.AJk 66 5):=Go.Eng.AQf (P:=Tryz.prog) (r:=Tryz.lays156_ren) ⟨Tryz.f23,Tryz.func23,by kernel_rfl,by kernel_rfl⟩ {Tryz.lays156 with} Tryz.Builder_Extra_156
theorem ABM:uT Tryz.prog 36 .join:=Go.Eng.nat_join (P:=Tryz.prog) (r:=Tryz.lays156_ren) ⟨Tryz.f36,Tryz.func36,by kernel_rfl,by kernel_rfl⟩ Tryz.lays156 Tryz.Builder_Extra_156
theorem xq:uT Tryz.prog 38 .rep:=Go.Eng.ASR (P:=Tryz.prog) (r:=Tryz.lays105_ren) ⟨Tryz.f38,Tryz.func38,by kernel_rfl,by kernel_rfl⟩ Tryz.lays105 Tryz.Builder_Extra_105
end Go.PQ
namespace Go.PQ
open Go.Eng
set_option maxRecDepth 100000
abbrev Fg(n:Nat)(a:AF):Prop:=vM Go.Proofs.Tryz.prog F n a
theorem ok1{n:Nat}{a:AF}{fn:Func}{loc:Nat->Bool}{df:Bool}{ords:AI9}{dg:Nat}(hf:Go.Proofs.Tryz.prog.funcs[n]? =some fn)(ht:trF Go.Proofs.Tryz.prog loc df ords dg fn=some a)(hn:(fn.name== "runtime.NumGoroutine")=false:=by kernel_rfl)(hd:a.dg=dg:=by kernel_rfl)(hi:AKS a.dp=true:=by kernel_rfl):Fg n a:=.one hf hn ht hd hi
theorem Z9:Fg 3 Jt:=ok1 Proofs.Tryz.func3 fU
theorem uM:Fg 5 Qe:=ok1 Proofs.Tryz.func5 AAS
theorem iE:Fg 6 LX:=ok1 Proofs.Tryz.func6 nR
theorem sK:Fg 7 O7:=ok1 Proofs.Tryz.func7 xP
theorem uD:Fg 8 Qn:=ok1 Proofs.Tryz.func8 zC
theorem AAX:Fg 9 Ve:=ok1 Proofs.Tryz.func9 ADr
theorem uP:Fg 10 Qg:=ok1 Proofs.Tryz.func10 yO
theorem AFs:Fg 11 jd:=ok1 Proofs.Tryz.func11 AJ8
theorem wQ:Fg 12 SB:=ok1 Proofs.Tryz.func12 ABh
theorem fC:Fg 13 LH:=ok1 Proofs.Tryz.func13 mO
theorem qF:Fg 14 PD:=ok1 Proofs.Tryz.func14 yC
theorem jr:Fg 15 Md:=ok1 Proofs.Tryz.func15 rX
theorem qC:Fg 16 O9:=ok1 Proofs.Tryz.func16 vO
theorem yB:Fg 17 SC:=ok1 Proofs.Tryz.func17 AAi
theorem rJ:Fg 18 PI:=ok1 Proofs.Tryz.func18 wW
theorem Vl:Fg 19 I8:=.nat _ rfl Vy
theorem vY:Fg 20 Ru:=ok1 Proofs.Tryz.func20 AAd
theorem ng:Fg 21 PU:=ok1 Proofs.Tryz.func21 vJ
theorem AD3:Fg 22 Y7:=ok1 Proofs.Tryz.func22 AHQ
theorem ZM:Fg 23 Lj:=.nat _ rfl Zl
theorem iF:Fg 24 LY:=ok1 Proofs.Tryz.func24 mg
theorem rW:Fg 25 O8:=ok1 Proofs.Tryz.func25 wP
theorem VE:Fg 26 FT:=ok1 Proofs.Tryz.func26 Vw
theorem HY:Fg 27 Bf:=ok1 Proofs.Tryz.func27 IC
theorem pV:Fg 28 PK:=ok1 Proofs.Tryz.func28 xZ
theorem tq:Fg 29 QZ:=ok1 Proofs.Tryz.func29 AAC
theorem uN:Fg 30 Qp:=ok1 Proofs.Tryz.func30 yX
theorem vC:Fg 31 SA:=ok1 Proofs.Tryz.func31 AA4
theorem kY:Fg 32 MO:=ok1 Proofs.Tryz.func32 qH
theorem qY:Fg 33 PX:=ok1 Proofs.Tryz.func33 vP
theorem AIu:Fg 34 sW:=ok1 Proofs.Tryz.func34 AM2
theorem zh:Fg 36 Ye:=.nat _ rfl ABM
theorem xC:Fg 37 Si:=ok1 Proofs.Tryz.func37 ABR
theorem uO:Fg 38 Vs:=.nat _ rfl xq
theorem iw:Fg 39 MZ:=ok1 Proofs.Tryz.func39 oP
theorem jg:Fg 40 MB:=ok1 Proofs.Tryz.func40 rZ
theorem kP:Fg 41 MI:=ok1 Proofs.Tryz.func41 sO
theorem nH:Fg 42 N8:=ok1 Proofs.Tryz.func42 uI
theorem jD:Fg 43 ML:=ok1 Proofs.Tryz.func43 sN
theorem o7:Fg 44 PS:=ok1 Proofs.Tryz.func44 yF
theorem dW:Fg 45 KU:=ok1 Proofs.Tryz.func45 kK
theorem jV:Fg 46 NT:=ok1 Proofs.Tryz.func46 qy
theorem JK:Fg 47 CU:=ok1 Proofs.Tryz.func47 Jm
theorem xR:Fg 48 Sl:=ok1 Proofs.Tryz.func48 ABd
theorem uS:Fg 49 Qq:=ok1 Proofs.Tryz.func49 AAT
theorem iV:Fg 50 ND:=ok1 Proofs.Tryz.func50 qO
theorem jY:Fg 51 NG:=ok1 Proofs.Tryz.func51 pq
theorem ADu:Fg 52 ZB:=ok1 Proofs.Tryz.func52 AGr
theorem wU:Fg 53 SI:=ok1 Proofs.Tryz.func53 AAk
theorem ADz:Fg 54 ZK:=ok1 Proofs.Tryz.func54 AGe
theorem ADv:Fg 55 ZF:=ok1 Proofs.Tryz.func55 AF2
theorem AD9:Fg 56 ZG:=ok1 Proofs.Tryz.func56 AFp
theorem AES:Fg 57 ZL:=ok1 Proofs.Tryz.func57 AGK
theorem ACV:Fg 58 XQ:=ok1 Proofs.Tryz.func58 AEg
theorem jI:Fg 59 MN:=ok1 Proofs.Tryz.func59 pO
theorem wu:Fg 60 SY:=ok1 Proofs.Tryz.func60 ABB
theorem vF:Fg 63 SK:=ok1 Proofs.Tryz.func63 ABA
theorem jP:Fg 66 NR:=ok1 Proofs.Tryz.func66 oQ
theorem kW:Fg 67 NK:=ok1 Proofs.Tryz.func67 pG
theorem gK:Fg 68 Kz:=.two Proofs.Tryz.func68 (by kernel_rfl) mX (by kernel_rfl) Ej (by kernel_rfl)
theorem JG:Fg 69 CV:=ok1 Proofs.Tryz.func69 Jo
theorem xI:Fg 70 Rw:=ok1 Proofs.Tryz.func70 ABX
theorem TY:Fg 71 Ey:=ok1 Proofs.Tryz.func71 U7
theorem Tz:Fg 72 Ew:=ok1 Proofs.Tryz.func72 U9
theorem wV:Fg 74 SV:=ok1 Proofs.Tryz.func74 AAh
theorem AGX:Fg 77 jo:=ok1 Proofs.Tryz.func77 AKj
theorem AEi:Fg 78 aZ:=ok1 Proofs.Tryz.func78 AHa
theorem jk:Fg 79 MG:=ok1 Proofs.Tryz.func79 sD
theorem jf:Fg 80 NJ:=ok1 Proofs.Tryz.func80 nZ
theorem kE:Fg 83 NP:=ok1 Proofs.Tryz.func83 rF
theorem AAM:Fg 84 Ub:=ok1 Proofs.Tryz.func84 ACR
theorem AEn:Fg 85 au:=ok1 Proofs.Tryz.func85 AIE
theorem wo:Fg 86 Rq:=ok1 Proofs.Tryz.func86 AAl
theorem cZ:Fg 87 KW:=ok1 Proofs.Tryz.func87 kM
theorem jQ:Fg 88 MK:=.two Proofs.Tryz.func88 (by kernel_rfl) qp (by kernel_rfl) Ej (by kernel_rfl)
theorem dP:Fg 89 KO:=.two Proofs.Tryz.func89 (by kernel_rfl) iR (by kernel_rfl) Ej (by kernel_rfl)
theorem iJ:Fg 90 LP:=ok1 Proofs.Tryz.func90 mP
theorem V3:Fg 91 F6:=ok1 Proofs.Tryz.func91 Xv
theorem eY:Fg 92 KN:=ok1 Proofs.Tryz.func92 ig
theorem dw:Fg 93 KY:=ok1 Proofs.Tryz.func93 jK
theorem Zv:Fg 94 JF:=ok1 Proofs.Tryz.func94 eU
theorem ZC:Fg 95 Ik:=ok1 Proofs.Tryz.func95 Z8
theorem Vz:Fg 96 GH:=ok1 Proofs.Tryz.func96 Xl
theorem Uc:Fg 97 FH:=ok1 Proofs.Tryz.func97 VL
theorem Vp:Fg 98 I7:=ok1 Proofs.Tryz.func98 XA
theorem YM:Fg 99 IV:=ok1 Proofs.Tryz.func99 Za
theorem fM:Fg 100 LK:=ok1 Proofs.Tryz.func100 mD
theorem XB:Fg 101 Gq:=ok1 Proofs.Tryz.func101 YL
theorem iO:Fg 102 LZ:=.two Proofs.Tryz.func102 (by kernel_rfl) nD (by kernel_rfl) Ej (by kernel_rfl)
theorem Vx:Fg 103 F7:=ok1 Proofs.Tryz.func103 YE
theorem sJ:Fg 104 PG:=ok1 Proofs.Tryz.func104 wI
theorem V6:Fg 105 F5:=ok1 Proofs.Tryz.func105 X3
theorem Uw:Fg 106 IU:=ok1 Proofs.Tryz.func106 Vb
theorem Ya:Fg 107 Kw:=ok1 Proofs.Tryz.func107 Zq
theorem fP:Fg 108 La:=ok1 Proofs.Tryz.func108 nX
theorem WV:Fg 109 J5:=ok1 Proofs.Tryz.func109 Yf
theorem WY:Fg 110 J4:=ok1 Proofs.Tryz.func110 YQ
theorem jX:Fg 111 NM:=ok1 Proofs.Tryz.func111 qE
theorem eF:Fg 112 KJ:=ok1 Proofs.Tryz.func112 jJ
theorem jC:Fg 113 MF:=ok1 Proofs.Tryz.func113 oV
theorem uH:Fg 114 Qo:=ok1 Proofs.Tryz.func114 yV
theorem all_good:T.All (λp af=>vM Go.Proofs.Tryz.prog F p.key af) F:=(.n0 (.n0 (.n1 Z9 (.n1 sK (.n1 jr (.n1 vC (.n1 vF .e .e) (.n1 ZC .e .e)) (.n1 JK (.n1 jk .e .e) (.n1 jX .e .e))) (.n1 ZM (.n1 iw (.n1 TY .e .e) (.n1 Vx .e .e)) (.n1 ADv (.n1 cZ .e .e) .e))) (.n1 AFs (.n1 Vl (.n0 (.n1 kW .e .e) (.n1 YM .e .e)) (.n1 jY (.n1 kE .e .e) .e)) (.n1 HY (.n1 jD .e (.n1 Ya .e .e)) (.n1 jI (.n1 V3 .e .e) .e)))) (.n1 uM (.n1 AAX (.n1 yB (.n1 qY .e (.n1 Uc .e .e)) (.n1 uS .e (.n1 jC .e .e))) (.n1 rW (.n1 kP .e (.n1 V6 .e .e)) (.n1 AES (.n1 dP .e .e) .e))) (.n1 fC (.n1 ng (.n1 xC (.n1 JG .e .e) (.n1 XB .e .e)) (.n1 wU (.n1 AEn .e .e) .e)) (.n1 tq (.n1 dW (.n1 AGX .e .e) (.n1 WV .e .e)) (.n0 (.n1 dw .e .e) .e))))) (.n0 (.n0 (.n1 uD (.n1 qC (.n1 kY .e (.n1 Vz .e .e)) (.n1 xR (.n1 jf .e .e) (.n1 eF .e .e))) (.n1 iF (.n1 jg (.n1 Tz .e .e) (.n1 sJ .e .e)) (.n1 AD9 (.n1 jQ .e .e) .e))) (.n1 wQ (.n1 vY (.n1 zh (.n1 gK .e .e) (.n1 fM .e .e)) (.n1 ADu (.n1 AAM .e .e) .e)) (.n1 pV (.n1 o7 .e (.n1 fP .e .e)) (.n1 wu (.n1 eY .e .e) .e)))) (.n1 iE (.n1 uP (.n1 rJ (.n1 AIu (.n1 jP .e .e) (.n1 Vp .e .e)) (.n1 iV .e (.n1 uH .e .e))) (.n1 VE (.n1 nH (.n1 wV .e .e) (.n1 Uw .e .e)) (.n1 ACV (.n1 iJ .e .e) .e))) (.n1 qF (.n1 AD3 (.n1 uO (.n1 xI .e .e) (.n1 iO .e .e)) (.n1 ADz (.n1 wo .e .e) .e)) (.n1 uN (.n1 jV (.n1 AEi .e .e) (.n1 WY .e .e)) (.n0 (.n1 Zv .e .e) .e))))))
theorem AWH:AFh Go.Proofs.Tryz.prog F:=.AWN (by kernel_rfl) all_good
end Go.PQ
