/- Part of a proof; nothing is assumed. -/
import Derived.Test.YtcjkfmaoahojeaaGreatDoorEngA
import Derived.Test.YtcjkfmaoahojeaaGreatDoorEngF
import Derived.Test.YtcjkfmaoahojeaaGreatDoorProg
import Derived.Test.YtcjkfmaoahojeaaGreatDoorEngG
set_option linter.unusedVariables false
set_option linter.unusedSimpArgs false
noncomputable section
namespace Go.PQ
open Go.Eng
set_option maxRecDepth 100000
abbrev tr(l:List (Nat×Nat))(d:Bool)(o:AIi)(g:Nat)(f:Func):Option AF:=trF Go.Proofs.Tryz.prog (inR l) d o g f
abbrev Vm:=tr [(7,7),(9,10),(12,33)] false [] 0 Proofs.Tryz.f3
def Ju:=Bo Vm
theorem fE:Vm=some Ju:=Ag (by kernel_rfl)
abbrev fG:=tr [(3,41)] false [] 0 Proofs.Tryz.f5
def Qg:=Bo fG
theorem AAD:fG=some Qg:=Ag (by kernel_rfl)
abbrev X7:=tr [(5,23),(25,25),(30,46),(48,48)] false [] 0 Proofs.Tryz.f6
def LY:=Bo X7
theorem nV:X7=some LY:=Ag (by kernel_rfl)
abbrev bK:=tr [(7,13),(15,26),(31,32),(55,56)] false [(9,opp [0,1,2,3,4,6,7,8,9,10,12,13,15,16,5,11,14,17,18,19,20,21,22])] 0 Proofs.Tryz.f7
def PL:=Bo bK
theorem wQ:bK=some PL:=Ag (by kernel_rfl)
abbrev fD:=tr [(8,13),(15,20),(25,26),(37,38),(43,44),(53,55)] false [(9,opp [0,1,5,6,2,3,4,7,8,9]),(14,opp [0,2,3,1,4,5,6,7])] 0 Proofs.Tryz.f8
def Qe:=Bo fD
theorem AAI:fD=some Qe:=Ag (by kernel_rfl)
abbrev uT:=tr [(8,14),(18,24),(31,32)] false [(3,dR 4),(7,dR 7)] 0 Proofs.Tryz.f9
def VY:=Bo uT
theorem AEZ:uT=some VY:=Ag (by kernel_rfl)
abbrev gZ:=tr [(5,30)] false [] 0 Proofs.Tryz.f10
def Qm:=Bo gZ
theorem zD:gZ=some Qm:=Ag (by kernel_rfl)
abbrev AFV:=tr [(8,13),(20,27),(35,40),(42,43)] false [(3,dR 7),(8,dR 8)] 0 Proofs.Tryz.f11
def kG:=Bo AFV
theorem AKJ:AFV=some kG:=Ag (by kernel_rfl)
abbrev lN:=tr [(6,41)] false [(3,dR 4),(4,dR 13)] 0 Proofs.Tryz.f12
def SB:=Bo lN
theorem AAh:lN=some SB:=Ag (by kernel_rfl)
abbrev Xo:=tr [(9,14),(20,53),(55,55),(60,63),(65,66)] false [] 0 Proofs.Tryz.f13
def LK:=Bo Xo
theorem mO:Xo=some LK:=Ag (by kernel_rfl)
abbrev aX:=tr [(3,9)] false [] 0 Proofs.Tryz.f14
def O9:=Bo aX
theorem xY:aX=some O9:=Ag (by kernel_rfl)
abbrev Yh:=tr [(6,6),(11,12),(24,25)] false [(5,[(0,.plain),(1,.plain),(2,.plain),(3,.plain),(5,.plain),(6,.plain),(4,.plain),(7,.plain),(8,.plain),(9,.plain),(10,.plain),(11,.wr)])] 0 Proofs.Tryz.f15
def MS:=Bo Yh
theorem sH:Yh=some MS:=Ag (by kernel_rfl)
abbrev bP:=tr [(3,9)] false [] 0 Proofs.Tryz.f16
def PE:=Bo bP
theorem xX:bP=some PE:=Ag (by kernel_rfl)
abbrev l7:=tr [(4,7),(9,14)] false [(4,opp [0,3,4,7,8,1,2,5,6,9,10])] 0 Proofs.Tryz.f17
def Ru:=Bo l7
theorem ABM:l7=some Ru:=Ag (by kernel_rfl)
abbrev ah:=tr [(12,12),(17,23),(25,39),(49,65),(67,87),(95,100),(102,108),(110,117),(119,130)] false [(21,dR 6),(12,dR 8)] 0 Proofs.Tryz.f18
def O7:=Bo ah
theorem vI:ah=some O7:=Ag (by kernel_rfl)
def I4:AF:=.nat (.AMg 66 5)
abbrev lu:=tr [(3,3),(5,9)] false [] 0 Proofs.Tryz.f20
def Rq:=Bo lu
theorem AAw:lu=some Rq:=Ag (by kernel_rfl)
abbrev bG:=tr [(7,7),(9,9),(14,15),(26,26)] false [(8,[(0,.plain),(1,.plain),(2,.plain),(5,.plain),(6,.plain),(3,.plain),(4,.plain),(7,.plain),(8,.plain),(9,.plain),(10,.wr)]),(10,opp [0,1,2,6,7,10,3,4,5,8,9,11,12,13,14])] 0 Proofs.Tryz.f21
def O1:=Bo bG
theorem vH:bG=some O1:=Ag (by kernel_rfl)
abbrev ACC:=tr [(8,8),(13,25)] false [] 0 Proofs.Tryz.f22
def ZF:=Bo ACC
theorem AG1:ACC=some ZF:=Ag (by kernel_rfl)
def Lm:AF:=.nat (.AKr 66 5)
abbrev YA:=tr [(5,19),(21,32),(34,35),(37,40),(50,57),(59,61),(69,84),(86,88)] false [(11,opp [0,1,2,4,3,5,6,7,8,9]),(15,dR 8)] 0 Proofs.Tryz.f24
def LW:=Bo YA
theorem mP:YA=some LW:=Ag (by kernel_rfl)
abbrev bT:=tr [(3,8)] false [] 0 Proofs.Tryz.f25
def PV:=Bo bT
theorem vM:bT=some PV:=Ag (by kernel_rfl)
abbrev Oa:=tr [(6,9),(11,11),(15,15),(25,25)] false [(6,dR 9)] 0 Proofs.Tryz.f26
def FQ:=Bo Oa
theorem V5:Oa=some FQ:=Ag (by kernel_rfl)
abbrev EN:=tr [(10,13),(19,29),(31,31)] false [] 0 Proofs.Tryz.f27
def Bf:=Bo EN
theorem IB:EN=some Bf:=Ag (by kernel_rfl)
abbrev aV:=tr [(5,37)] false [] 0 Proofs.Tryz.f28
def PY:=Bo aV
theorem vk:aV=some PY:=Ag (by kernel_rfl)
abbrev gV:=tr [(24,39),(61,61),(73,75)] false [(0,dR 10),(1,dR 10),(4,dR 11),(5,dR 11),(7,dR 11)] 0 Proofs.Tryz.f29
def Qa:=Bo gV
theorem yU:gV=some Qa:=Ag (by kernel_rfl)
abbrev gB:=tr [(9,13),(24,24),(37,37),(49,52),(54,59),(61,68),(70,70),(72,85),(87,87),(89,92),(94,109)] false [(2,dR 10),(4,dR 10),(8,dR 11)] 0 Proofs.Tryz.f30
def Qk:=Bo gB
theorem zq:gB=some Qk:=Ag (by kernel_rfl)
abbrev lS:=tr [(7,26),(28,28),(33,38),(40,40)] false [] 0 Proofs.Tryz.f31
def Sl:=Bo lS
theorem AAo:lS=some Sl:=Ag (by kernel_rfl)
abbrev Y4:=tr [(4,7),(9,15)] false [] 0 Proofs.Tryz.f32
def MC:=Bo Y4
theorem rH:Y4=some MC:=Ag (by kernel_rfl)
abbrev bM:=tr [(10,21),(23,27),(29,32),(34,37),(39,46),(48,58),(60,61),(72,82),(84,85),(95,99),(101,110),(112,120),(122,128),(130,142),(144,154)] false [(22,dR 10),(29,dR 9)] 0 Proofs.Tryz.f33
def O4:=Bo bM
theorem xA:bM=some O4:=Ag (by kernel_rfl)
abbrev AHq:=tr [(3,4)] false [] 0 Proofs.Tryz.f34
def tC:=Bo AHq
theorem AMh:AHq=some tC:=Ag (by kernel_rfl)
def YJ:AF:=.nat .join
abbrev lX:=tr [(7,10),(13,13),(30,30),(41,41),(54,56),(58,67),(69,69),(84,90),(92,103)] false [(4,opp [0,1,2,3,7,8,11,4,5,6,9,10,12,13,14,15]),(6,opp [0,1,5,2,3,4,6,7,8,9]),(8,opp [0,1,2,6,7,8,9,3,4,5,10,11,12]),(13,opp [0,1,2,6,7,8,9,3,4,5,10,11,12,13])] 0 Proofs.Tryz.f37
def SG:=Bo lX
theorem ABc:lX=some SG:=Ag (by kernel_rfl)
def VI:AF:=.nat .rep
abbrev Y1:=tr [(10,14),(16,18)] false [] 0 Proofs.Tryz.f39
def Mc:=Bo Y1
theorem qH:Y1=some Mc:=Ag (by kernel_rfl)
abbrev Y0:=tr [(5,17),(19,23)] false [] 0 Proofs.Tryz.f40
def ML:=Bo Y0
theorem qW:Y0=some ML:=Ag (by kernel_rfl)
abbrev Y5:=tr [(5,8),(10,11)] false [] 0 Proofs.Tryz.f41
def MK:=Bo Y5
theorem sF:Y5=some MK:=Ag (by kernel_rfl)
abbrev Zh:=tr [(4,6),(8,12)] false [] 0 Proofs.Tryz.f42
def N7:=Bo Zh
theorem uP:Zh=some N7:=Ag (by kernel_rfl)
abbrev Yj:=tr [(4,4),(6,7)] false [] 0 Proofs.Tryz.f43
def MG:=Bo Yj
theorem rF:Yj=some MG:=Ag (by kernel_rfl)
abbrev bU:=tr [(11,44),(46,46)] false [] 0 Proofs.Tryz.f44
def Pg:=Bo bU
theorem wF:bU=some Pg:=Ag (by kernel_rfl)
abbrev WB:=tr [(6,12),(17,34),(36,38),(40,44),(54,62)] false [(2,opp [0,1,4,2,3,5]),(11,opp [0,1,2,4,3,5,6,7,8,9])] 0 Proofs.Tryz.f45
def KO:=Bo WB
theorem kX:WB=some KO:=Ag (by kernel_rfl)
abbrev Yu:=tr [(4,8),(10,21)] false [] 0 Proofs.Tryz.f46
def MH:=Bo Yu
theorem qG:Yu=some MH:=Ag (by kernel_rfl)
abbrev Et:=tr [(10,13),(19,29),(31,31)] false [] 0 Proofs.Tryz.f47
def CW:=Bo Et
theorem Jm:Et=some CW:=Ag (by kernel_rfl)
abbrev lC:=tr [(5,44)] false [] 0 Proofs.Tryz.f48
def SY:=Bo lC
theorem ABN:lC=some SY:=Ag (by kernel_rfl)
abbrev gy:=tr [(7,15),(26,43)] false [(3,dR 10)] 0 Proofs.Tryz.f49
def Qp:=Bo gy
theorem yh:gy=some Qp:=Ag (by kernel_rfl)
abbrev Yn:=tr [(5,7)] false [] 0 Proofs.Tryz.f50
def L8:=Bo Yn
theorem qY:Yn=some L8:=Ag (by kernel_rfl)
abbrev Yo:=tr [(5,7)] false [] 0 Proofs.Tryz.f51
def NJ:=Bo Yo
theorem qX:Yo=some NJ:=Ag (by kernel_rfl)
abbrev ABv:=tr [(3,8)] false [] 0 Proofs.Tryz.f52
def ZM:=Bo ABv
theorem AHN:ABv=some ZM:=Ag (by kernel_rfl)
abbrev lJ:=tr [(33,34)] false [(2,dR 27),(4,dR 16)] 0 Proofs.Tryz.f53
def SC:=Bo lJ
theorem AA1:lJ=some SC:=Ag (by kernel_rfl)
abbrev ABy:=tr [(3,16)] false [] 0 Proofs.Tryz.f54
def ZE:=Bo ABy
theorem AHE:ABy=some ZE:=Ag (by kernel_rfl)
abbrev AB2:=tr [(3,8)] false [] 0 Proofs.Tryz.f55
def ZK:=Bo AB2
theorem AGC:AB2=some ZK:=Ag (by kernel_rfl)
abbrev ACD:=tr [(5,25)] false [] 0 Proofs.Tryz.f56
def ZQ:=Bo ACD
theorem AF5:ACD=some ZQ:=Ag (by kernel_rfl)
abbrev ABp:=tr [(3,8)] false [] 0 Proofs.Tryz.f57
def Y9:=Bo ABp
theorem AG3:ABp=some Y9:=Ag (by kernel_rfl)
abbrev yM:=tr [(7,7),(12,20),(22,23)] false [] 0 Proofs.Tryz.f58
def XU:=Bo yM
theorem AEf:yM=some XU:=Ag (by kernel_rfl)
abbrev Yl:=tr [(5,11),(13,13)] false [(3,dR 13)] 0 Proofs.Tryz.f59
def MR:=Bo Yl
theorem nZ:Yl=some MR:=Ag (by kernel_rfl)
abbrev lQ:=tr [(3,5)] false [] 0 Proofs.Tryz.f60
def Sj:=Bo lQ
theorem AAX:lQ=some Sj:=Ag (by kernel_rfl)
abbrev lD:=tr [(5,8),(10,15)] false [] 0 Proofs.Tryz.f63
def Sm:=Bo lD
theorem ABV:lD=some Sm:=Ag (by kernel_rfl)
abbrev Yi:=tr [(4,11),(13,21)] false [] 0 Proofs.Tryz.f66
def ND:=Bo Yi
theorem ql:Yi=some ND:=Ag (by kernel_rfl)
abbrev Yr:=tr [(4,6),(8,13)] false [] 0 Proofs.Tryz.f67
def Md:=Bo Yr
theorem sO:Yr=some Md:=Ag (by kernel_rfl)
abbrev X6:=tr [(4,14),(16,21)] true [] 87 Proofs.Tryz.f68
def LX:=Bo X6
theorem nT:X6=some LX:=Ag (by kernel_rfl)
abbrev Ep:=tr [(10,13),(19,29),(31,31)] false [] 0 Proofs.Tryz.f69
def CU:=Bo Ep
theorem Jk:Ep=some CU:=Ag (by kernel_rfl)
abbrev lV:=tr [(5,37)] false [] 0 Proofs.Tryz.f70
def Rw:=Bo lV
theorem AAu:lV=some Rw:=Ag (by kernel_rfl)
abbrev Ls:=tr [(5,17)] false [] 0 Proofs.Tryz.f71
def Ey:=Bo Ls
theorem U9:Ls=some Ey:=Ag (by kernel_rfl)
abbrev MP:=tr [(5,7)] false [] 0 Proofs.Tryz.f72
def Eu:=Bo MP
theorem U7:MP=some Eu:=Ag (by kernel_rfl)
abbrev lH:=tr [(3,3),(6,9),(11,11),(13,13),(15,15),(17,19),(21,21),(29,29),(43,43),(58,63),(65,65),(76,76),(85,88),(90,94),(96,100),(102,102),(116,116),(126,126),(136,136),(147,147)] false [(13,opp [0,3,4,1,2,5,6]),(15,opp [0,3,4,7,1,2,5,6,8,9,10,11,12]),(17,dR 14),(21,dR 10),(23,opp [0,3,1,2,4,5,6,7]),(31,opp [0,4,5,8,1,2,3,6,7,9,10,11,12]),(33,opp [0,4,1,2,3,5,6,7,8]),(35,opp [0,4,1,2,3,5,6,7,8]),(37,opp [0,4,5,6,1,2,3,7,8,9]),(39,opp [0,4,5,6,1,2,3,7,8,9])] 0 Proofs.Tryz.f74
def SN:=Bo lH
theorem ABZ:lH=some SN:=Ag (by kernel_rfl)
abbrev AFf:=tr [(1,1)] false [] 0 Proofs.Tryz.f77
def jW:=Bo AFf
theorem AKK:AFf=some jW:=Ag (by kernel_rfl)
abbrev AET:=tr [(1,1)] false [] 0 Proofs.Tryz.f78
def aJ:=Bo AET
theorem AH2:AET=some aJ:=Ag (by kernel_rfl)
abbrev Yg:=tr [(3,13),(15,17)] false [] 0 Proofs.Tryz.f79
def NP:=Bo Yg
theorem qQ:Yg=some NP:=Ag (by kernel_rfl)
abbrev Y2:=tr [(4,13),(15,30),(32,36),(38,48),(50,56),(58,68)] false [] 0 Proofs.Tryz.f80
def MB:=Bo Y2
theorem rC:Y2=some MB:=Ag (by kernel_rfl)
abbrev Yx:=tr [(5,7)] false [] 0 Proofs.Tryz.f83
def NC:=Bo Yx
theorem rY:Yx=some NC:=Ag (by kernel_rfl)
abbrev qj:=tr [(5,8),(10,15)] false [] 0 Proofs.Tryz.f84
def UH:=Bo qj
theorem ACT:qj=some UH:=Ag (by kernel_rfl)
abbrev AD0:=tr [(10,19)] false [] 0 Proofs.Tryz.f85
def bC:=Bo AD0
theorem AI6:AD0=some bC:=Ag (by kernel_rfl)
abbrev ku:=tr [(3,9)] false [] 0 Proofs.Tryz.f86
def Rx:=Bo ku
theorem AA4:ku=some Rx:=Ag (by kernel_rfl)
abbrev WG:=tr [(1,7)] false [] 0 Proofs.Tryz.f87
def KY:=Bo WG
theorem kL:WG=some KY:=Ag (by kernel_rfl)
abbrev Yz:=tr [(3,7)] true [] 87 Proofs.Tryz.f88
def NR:=Bo Yz
theorem qN:Yz=some NR:=Ag (by kernel_rfl)
abbrev WR:=tr [(4,24),(26,27),(29,36)] true [] 87 Proofs.Tryz.f89
def KQ:=Bo WR
theorem jH:WR=some KQ:=Ag (by kernel_rfl)
abbrev X9:=tr [(5,6),(15,17),(19,25),(27,40),(42,46)] false [(1,dR 10),(8,dR 16)] 0 Proofs.Tryz.f90
def Kz:=Bo X9
theorem mZ:X9=some Kz:=Ag (by kernel_rfl)
abbrev Pz:=tr [(8,8),(10,10),(12,16),(18,22),(24,33),(35,53)] false [] 0 Proofs.Tryz.f91
def F8:=Bo Pz
theorem Xp:Pz=some F8:=Ag (by kernel_rfl)
abbrev WS:=tr [(11,15),(17,19),(27,27)] false [(4,dR 8)] 0 Proofs.Tryz.f92
def KU:=Bo WS
theorem kE:WS=some KU:=Ag (by kernel_rfl)
abbrev WE:=tr [(2,5)] false [] 0 Proofs.Tryz.f93
def KN:=Bo WE
theorem jo:WE=some KN:=Ag (by kernel_rfl)
abbrev U4:=tr [(6,10),(12,13),(23,23)] false [(5,dR 10)] 0 Proofs.Tryz.f94
def JD:=Bo U4
theorem dU:U4=some JD:=Ag (by kernel_rfl)
abbrev UG:=tr [(3,3),(5,14)] false [] 0 Proofs.Tryz.f95
def Ih:=Bo UG
theorem aC:UG=some Ih:=Ag (by kernel_rfl)
abbrev P6:=tr [(4,14)] false [] 0 Proofs.Tryz.f96
def F6:=Bo P6
theorem Xk:P6=some F6:=Ag (by kernel_rfl)
abbrev Nl:=tr [(17,19),(21,41),(94,98),(100,109),(136,138),(140,144),(158,160),(162,166)] false [(7,dR 15),(8,dR 15),(9,dR 15),(10,dR 15),(17,dR 15),(18,dR 15),(23,dR 15)] 0 Proofs.Tryz.f97
def E8:=Bo Nl
theorem VJ:Nl=some E8:=Ag (by kernel_rfl)
abbrev Ox:=tr [(19,27),(29,29),(31,33),(35,45),(47,67),(69,88),(90,93),(95,101)] false [] 0 Proofs.Tryz.f98
def I9:=Bo Ox
theorem Wj:Ox=some I9:=Ag (by kernel_rfl)
abbrev TA:=tr [(2,5)] false [] 0 Proofs.Tryz.f99
def IJ:=Bo TA
theorem Zf:TA=some IJ:=Ag (by kernel_rfl)
abbrev Xw:=tr [(9,12),(14,15),(25,25)] false [(4,dR 10)] 0 Proofs.Tryz.f100
def LQ:=Bo Xw
theorem nK:Xw=some LQ:=Ag (by kernel_rfl)
abbrev Qu:=tr [(2,6)] false [] 0 Proofs.Tryz.f101
def Gu:=Bo Qu
theorem YL:Qu=some Gu:=Ag (by kernel_rfl)
abbrev YD:=tr [(9,15),(20,25),(27,30),(42,46),(48,51),(62,62)] true [(8,dR 15),(16,opp [0,1,2,3,6,7,4,5,8,9])] 87 Proofs.Tryz.f102
def LZ:=Bo YD
theorem nU:YD=some LZ:=Ag (by kernel_rfl)
abbrev Px:=tr [(3,5)] false [] 0 Proofs.Tryz.f103
def F9:=Bo Px
theorem Xy:Px=some F9:=Ag (by kernel_rfl)
abbrev aS:=tr [(3,3),(5,7),(9,13),(15,24)] false [] 0 Proofs.Tryz.f104
def PS:=Bo aS
theorem xu:aS=some PS:=Ag (by kernel_rfl)
abbrev P8:=tr [] false [] 0 Proofs.Tryz.f105
def Fz:=Bo P8
theorem Xu:P8=some Fz:=Ag (by kernel_rfl)
abbrev Nq:=tr [(3,7)] false [] 0 Proofs.Tryz.f106
def IE:=Bo Nq
theorem Vs:Nq=some IE:=Ag (by kernel_rfl)
abbrev TI:=tr [(3,7)] false [] 0 Proofs.Tryz.f107
def Kt:=Bo TI
theorem Zg:TI=some Kt:=Ag (by kernel_rfl)
abbrev Xx:=tr [(5,14),(16,17),(24,26),(28,33)] false [(5,dR 7)] 0 Proofs.Tryz.f108
def LC:=Bo Xx
theorem mG:Xx=some LC:=Ag (by kernel_rfl)
abbrev Qn:=tr [(3,3),(5,13)] false [] 0 Proofs.Tryz.f109
def J5:=Bo Qn
theorem YK:Qn=some J5:=Ag (by kernel_rfl)
abbrev Qb:=tr [(3,3),(5,13)] false [] 0 Proofs.Tryz.f110
def J4:=Bo Qb
theorem YQ:Qb=some J4:=Ag (by kernel_rfl)
abbrev Yk:=tr [(5,15),(17,20),(22,26),(32,36),(42,59),(61,63),(65,67),(69,71),(73,75),(77,83),(85,95),(97,98),(100,107)] false [(8,dR 6),(11,dR 6)] 0 Proofs.Tryz.f111
def MQ:=Bo Yk
theorem nY:Yk=some MQ:=Ag (by kernel_rfl)
abbrev WC:=tr [(8,8),(10,18),(20,24)] false [(6,dR 9)] 0 Proofs.Tryz.f112
def KL:=Bo WC
theorem iy:WC=some KL:=Ag (by kernel_rfl)
abbrev Yv:=tr [(4,12),(14,15),(17,29)] false [] 0 Proofs.Tryz.f113
def MJ:=Bo Yv
theorem rM:Yv=some MJ:=Ag (by kernel_rfl)
abbrev fZ:=tr [(3,22)] false [] 0 Proofs.Tryz.f114
def Qd:=Bo fZ
theorem yV:fZ=some Qd:=Ag (by kernel_rfl)
def F:T AF:=(.n none (.n none (.n (some Ju) (.n (some PL) (.n (some MS) (.n (some Sl) (.n (some Sm) .e .e) (.n (some Ih) .e .e)) (.n (some CW) (.n (some NP) .e .e) (.n (some MQ) .e .e))) (.n (some Lm) (.n (some Mc) (.n (some Ey) .e .e) (.n (some F9) .e .e)) (.n (some ZK) (.n (some KY) .e .e) .e))) (.n (some kG) (.n (some I4) (.n none (.n (some Md) .e .e) (.n (some IJ) .e .e)) (.n (some NJ) (.n (some NC) .e .e) .e)) (.n (some Bf) (.n (some MG) .e (.n (some Kt) .e .e)) (.n (some MR) (.n (some F8) .e .e) .e)))) (.n (some Qg) (.n (some VY) (.n (some Ru) (.n (some O4) .e (.n (some E8) .e .e)) (.n (some Qp) .e (.n (some MJ) .e .e))) (.n (some PV) (.n (some MK) .e (.n (some Fz) .e .e)) (.n (some Y9) (.n (some KQ) .e .e) .e))) (.n (some LK) (.n (some O1) (.n (some SG) (.n (some CU) .e .e) (.n (some Gu) .e .e)) (.n (some SC) (.n (some bC) .e .e) .e)) (.n (some Qa) (.n (some KO) (.n (some jW) .e .e) (.n (some J5) .e .e)) (.n none (.n (some KN) .e .e) .e))))) (.n none (.n none (.n (some Qe) (.n (some PE) (.n (some MC) .e (.n (some F6) .e .e)) (.n (some SY) (.n (some MB) .e .e) (.n (some KL) .e .e))) (.n (some LW) (.n (some ML) (.n (some Eu) .e .e) (.n (some PS) .e .e)) (.n (some ZQ) (.n (some NR) .e .e) .e))) (.n (some SB) (.n (some Rq) (.n (some YJ) (.n (some LX) .e .e) (.n (some LQ) .e .e)) (.n (some ZM) (.n (some UH) .e .e) .e)) (.n (some PY) (.n (some Pg) .e (.n (some LC) .e .e)) (.n (some Sj) (.n (some KU) .e .e) .e)))) (.n (some LY) (.n (some Qm) (.n (some O7) (.n (some tC) (.n (some ND) .e .e) (.n (some I9) .e .e)) (.n (some L8) .e (.n (some Qd) .e .e))) (.n (some FQ) (.n (some N7) (.n (some SN) .e .e) (.n (some IE) .e .e)) (.n (some XU) (.n (some Kz) .e .e) .e))) (.n (some O9) (.n (some ZF) (.n (some VI) (.n (some Rw) .e .e) (.n (some LZ) .e .e)) (.n (some ZE) (.n (some Rx) .e .e) .e)) (.n (some Qk) (.n (some MH) (.n (some aJ) .e .e) (.n (some J4) .e .e)) (.n none (.n (some JD) .e .e) .e))))))
theorem Ol:T.get F 3=some Ju:=by kernel_rfl
theorem Vr:T.get F 5=some Qg:=by kernel_rfl
theorem QX:T.get F 6=some LY:=by kernel_rfl
theorem Uu:T.get F 7=some PL:=by kernel_rfl
theorem VO:T.get F 8=some Qe:=by kernel_rfl
theorem Z7:T.get F 9=some VY:=by kernel_rfl
theorem VG:T.get F 10=some Qm:=by kernel_rfl
theorem xJ:T.get F 11=some kG:=by kernel_rfl
theorem Wh:T.get F 12=some SB:=by kernel_rfl
theorem QT:T.get F 13=some LK:=by kernel_rfl
theorem Us:T.get F 14=some O9:=by kernel_rfl
theorem Q9:T.get F 15=some MS:=by kernel_rfl
theorem Uf:T.get F 16=some PE:=by kernel_rfl
theorem Wx:T.get F 17=some Ru:=by kernel_rfl
theorem Uh:T.get F 18=some O7:=by kernel_rfl
theorem WX:T.get F 19=some I4:=by kernel_rfl
theorem XG:T.get F 20=some Rq:=by kernel_rfl
theorem Ul:T.get F 21=some O1:=by kernel_rfl
theorem jJ:T.get F 22=some ZF:=by kernel_rfl
theorem aB:T.get F 23=some Lm:=by kernel_rfl
theorem QG:T.get F 24=some LW:=by kernel_rfl
theorem Um:T.get F 25=some PV:=by kernel_rfl
theorem Ia:T.get F 26=some FQ:=by kernel_rfl
theorem DI:T.get F 27=some Bf:=by kernel_rfl
theorem Ug:T.get F 28=some PY:=by kernel_rfl
theorem Vo:T.get F 29=some Qa:=by kernel_rfl
theorem VQ:T.get F 30=some Qk:=by kernel_rfl
theorem XD:T.get F 31=some Sl:=by kernel_rfl
theorem RH:T.get F 32=some MC:=by kernel_rfl
theorem Ud:T.get F 33=some O4:=by kernel_rfl
theorem fH:T.get F 34=some tC:=by kernel_rfl
theorem ACa:T.get F 36=some YJ:=by kernel_rfl
theorem Ci:T.get F 37=some SG:=by kernel_rfl
theorem zX:T.get F 38=some VI:=by kernel_rfl
theorem RU:T.get F 39=some Mc:=by kernel_rfl
theorem Rh:T.get F 40=some ML:=by kernel_rfl
theorem RY:T.get F 41=some MK:=by kernel_rfl
theorem TK:T.get F 42=some N7:=by kernel_rfl
theorem RG:T.get F 43=some MG:=by kernel_rfl
theorem Uo:T.get F 44=some Pg:=by kernel_rfl
theorem PK:T.get F 45=some KO:=by kernel_rfl
theorem Rj:T.get F 46=some MH:=by kernel_rfl
theorem Dj:T.get F 47=some CW:=by kernel_rfl
theorem Wv:T.get F 48=some SY:=by kernel_rfl
theorem VX:T.get F 49=some Qp:=by kernel_rfl
theorem Rf:T.get F 50=some L8:=by kernel_rfl
theorem Q8:T.get F 51=some NJ:=by kernel_rfl
theorem ji:T.get F 52=some ZM:=by kernel_rfl
theorem XJ:T.get F 53=some SC:=by kernel_rfl
theorem iR:T.get F 54=some ZE:=by kernel_rfl
theorem jk:T.get F 55=some ZK:=by kernel_rfl
theorem iQ:T.get F 56=some ZQ:=by kernel_rfl
theorem kQ:T.get F 57=some Y9:=by kernel_rfl
theorem eU:T.get F 58=some XU:=by kernel_rfl
theorem Jh:T.get F 59=some MR:=by kernel_rfl
theorem W9:T.get F 60=some Sj:=by kernel_rfl
theorem XH:T.get F 63=some Sm:=by kernel_rfl
theorem Ro:T.get F 66=some ND:=by kernel_rfl
theorem RI:T.get F 67=some Md:=by kernel_rfl
theorem QO:T.get F 68=some LX:=by kernel_rfl
theorem Dk:T.get F 69=some CU:=by kernel_rfl
theorem XF:T.get F 70=some Rw:=by kernel_rfl
theorem Hr:T.get F 71=some Ey:=by kernel_rfl
theorem Ht:T.get F 72=some Eu:=by kernel_rfl
theorem Af:T.get F 74=some SN:=by kernel_rfl
theorem vY:T.get F 77=some jW:=by kernel_rfl
theorem pK:T.get F 78=some aJ:=by kernel_rfl
theorem Q7:T.get F 79=some NP:=by kernel_rfl
theorem Ri:T.get F 80=some MB:=by kernel_rfl
theorem RX:T.get F 83=some NC:=by kernel_rfl
theorem YX:T.get F 84=some UH:=by kernel_rfl
theorem oV:T.get F 85=some bC:=by kernel_rfl
theorem Ws:T.get F 86=some Rx:=by kernel_rfl
theorem Ej:T.get F 87=some KY:=by kernel_rfl
theorem Rn:T.get F 88=some NR:=by kernel_rfl
theorem PU:T.get F 89=some KQ:=by kernel_rfl
theorem QM:T.get F 90=some Kz:=by kernel_rfl
theorem JR:T.get F 91=some F8:=by kernel_rfl
theorem PO:T.get F 92=some KU:=by kernel_rfl
theorem PW:T.get F 93=some KN:=by kernel_rfl
theorem NY:T.get F 94=some JD:=by kernel_rfl
theorem Ll:T.get F 95=some Ih:=by kernel_rfl
theorem JU:T.get F 96=some F6:=by kernel_rfl
theorem IU:T.get F 97=some E8:=by kernel_rfl
theorem Kr:T.get F 99=some IJ:=by kernel_rfl
theorem QI:T.get F 100=some LQ:=by kernel_rfl
theorem J3:T.get F 101=some Gu:=by kernel_rfl
theorem QJ:T.get F 102=some LZ:=by kernel_rfl
theorem Ji:T.get F 103=some F9:=by kernel_rfl
theorem Uw:T.get F 104=some PS:=by kernel_rfl
theorem JQ:T.get F 105=some Fz:=by kernel_rfl
theorem QN:T.get F 108=some LC:=by kernel_rfl
theorem RD:T.get F 111=some MQ:=by kernel_rfl
theorem Oz:T.get F 112=some KL:=by kernel_rfl
theorem Rl:T.get F 113=some MJ:=by kernel_rfl
theorem Ve:T.get F 114=some Qd:=by kernel_rfl
end Go.PQ
namespace Go.Proofs
open Go.Shelf
def Tryz.lays105_ren:Go.Shelf.Ren:=⟨λ|105=>38|212=>64|99=>50|165=>62|166=>19|170=>65|169=>23|263=>75|264=>76|206=>71|240=>35|241=>73|276=>61|277=>82|n=>n,λ|9=>9|3=>3|4=>4|20=>20|0=>0|46=>115|109=>116|5=>5|72=>66|76=>69|51=>124|146=>125|53=>127|148=>128|70=>63|37=>64|75=>68|127=>94|164=>113|80=>31|n=>n,λ|n=>n⟩
theorem Tryz.lays105:Go.Proofs.Lays.n105 Tryz.prog Tryz.lays105_ren:={
 mixed:=by kernel_rfl
 f99:=Tryz.func50.trans (congrArg some (by kernel_rfl))
 f105:=Tryz.func38.trans (congrArg some (by kernel_rfl))
 f165:=Tryz.func62.trans (congrArg some (by kernel_rfl))
 f166:=Tryz.func19.trans (congrArg some (by kernel_rfl))
 f169:=Tryz.func23.trans (congrArg some (by kernel_rfl))
 f170:=Tryz.func65.trans (congrArg some (by kernel_rfl))
 f206:=Tryz.func71.trans (congrArg some (by kernel_rfl))
 f212:=Tryz.func64.trans (congrArg some (by kernel_rfl))
 f240:=Tryz.func35.trans (congrArg some (by kernel_rfl))
 f241:=Tryz.func73.trans (congrArg some (by kernel_rfl))
 f263:=Tryz.func75.trans (congrArg some (by kernel_rfl))
 f264:=Tryz.func76.trans (congrArg some (by kernel_rfl))
 f276:=Tryz.func61.trans (congrArg some (by kernel_rfl))
 f277:=Tryz.func82.trans (congrArg some (by kernel_rfl))
 t0:=Tryz.underlying0
 a0:=Tryz.isAgg0
 z0:=Tryz.sizeOf0
 v0:=Tryz.zeroValue0
 t3:=Tryz.underlying3
 a3:=Tryz.isAgg3
 z3:=Tryz.sizeOf3
 v3:=Tryz.zeroValue3
 t4:=Tryz.underlying4
 a4:=Tryz.isAgg4
 z4:=Tryz.sizeOf4
 v4:=Tryz.zeroValue4
 t5:=Tryz.underlying5
 a5:=Tryz.isAgg5
 z5:=Tryz.sizeOf5
 v5:=Tryz.zeroValue5
 t9:=Tryz.underlying9
 a9:=Tryz.isAgg9
 z9:=Tryz.sizeOf9
 v9:=Tryz.zeroValue9
 t20:=Tryz.underlying20
 a20:=Tryz.isAgg20
 z20:=Tryz.sizeOf20
 v20:=Tryz.zeroValue20
 t37:=Tryz.underlying64
 a37:=Tryz.isAgg64
 z37:=Tryz.sizeOf64
 v37:=Tryz.zeroValue64
 t46:=Tryz.underlying115
 a46:=Tryz.isAgg115
 z46:=Tryz.sizeOf115
 v46:=Tryz.zeroValue115
 t51:=Tryz.underlying124
 a51:=Tryz.isAgg124
 z51:=Tryz.sizeOf124
 v51:=Tryz.zeroValue124
 t53:=Tryz.underlying127
 a53:=Tryz.isAgg127
 z53:=Tryz.sizeOf127
 v53:=Tryz.zeroValue127
 t70:=Tryz.underlying63
 a70:=Tryz.isAgg63
 z70:=Tryz.sizeOf63
 v70:=Tryz.zeroValue63
 t72:=Tryz.underlying66
 a72:=Tryz.isAgg66
 z72:=Tryz.sizeOf66
 v72:=Tryz.zeroValue66
 t75:=Tryz.underlying68
 a75:=Tryz.isAgg68
 z75:=Tryz.sizeOf68
 v75:=Tryz.zeroValue68
 t76:=Tryz.underlying69
 a76:=Tryz.isAgg69
 z76:=Tryz.sizeOf69
 v76:=Tryz.zeroValue69
 t109:=Tryz.underlying116
 a109:=Tryz.isAgg116
 z109:=Tryz.sizeOf116
 v109:=Tryz.zeroValue116
 t127:=Tryz.underlying94
 a127:=Tryz.isAgg94
 z127:=Tryz.sizeOf94
 v127:=Tryz.zeroValue94
 t146:=Tryz.underlying125
 a146:=Tryz.isAgg125
 z146:=Tryz.sizeOf125
 v146:=Tryz.zeroValue125
 t148:=Tryz.underlying128
 a148:=Tryz.isAgg128
 z148:=Tryz.sizeOf128
 v148:=Tryz.zeroValue128
 t164:=Tryz.underlying113
 a164:=Tryz.isAgg113
 z164:=Tryz.sizeOf113
 v164:=Tryz.zeroValue113}
theorem Tryz.Builder_Extra_105:Builder.Extra Tryz.prog Tryz.lays105_ren:={
 sizeBuilder:=by kernel_rfl
 liesBuilder:=by kernel_rfl
 t5:=Tryz.underlying5
 a5:=Tryz.isAgg5
 z5:=Tryz.sizeOf5
 v5:=Tryz.zeroValue5
 infoByte:=by kernel_rfl
 cellsByte:=by kernel_rfl
 sizeByte:=by kernel_rfl
 neB5:=by decide}
def Tryz.lays156_ren:Go.Shelf.Ren:=⟨λ|156=>36|165=>62|166=>19|169=>23|240=>35|241=>73|276=>61|277=>82|n=>n,λ|31=>40|9=>9|3=>3|4=>4|0=>0|20=>20|72=>66|76=>69|70=>63|37=>64|75=>68|127=>94|164=>113|5=>5|80=>31|n=>n,λ|n=>n⟩
theorem Tryz.lays156:Go.Proofs.Lays.n156 Tryz.prog Tryz.lays156_ren:={
 mixed:=by kernel_rfl
 f156:=Tryz.func36.trans (congrArg some (by kernel_rfl))
 f165:=Tryz.func62.trans (congrArg some (by kernel_rfl))
 f166:=Tryz.func19.trans (congrArg some (by kernel_rfl))
 f169:=Tryz.func23.trans (congrArg some (by kernel_rfl))
 f240:=Tryz.func35.trans (congrArg some (by kernel_rfl))
 f241:=Tryz.func73.trans (congrArg some (by kernel_rfl))
 f276:=Tryz.func61.trans (congrArg some (by kernel_rfl))
 f277:=Tryz.func82.trans (congrArg some (by kernel_rfl))
 t0:=Tryz.underlying0
 a0:=Tryz.isAgg0
 z0:=Tryz.sizeOf0
 v0:=Tryz.zeroValue0
 t3:=Tryz.underlying3
 a3:=Tryz.isAgg3
 z3:=Tryz.sizeOf3
 v3:=Tryz.zeroValue3
 t4:=Tryz.underlying4
 a4:=Tryz.isAgg4
 z4:=Tryz.sizeOf4
 v4:=Tryz.zeroValue4
 t9:=Tryz.underlying9
 a9:=Tryz.isAgg9
 z9:=Tryz.sizeOf9
 v9:=Tryz.zeroValue9
 t20:=Tryz.underlying20
 a20:=Tryz.isAgg20
 z20:=Tryz.sizeOf20
 v20:=Tryz.zeroValue20
 t31:=Tryz.underlying40
 a31:=Tryz.isAgg40
 z31:=Tryz.sizeOf40
 v31:=Tryz.zeroValue40
 t37:=Tryz.underlying64
 a37:=Tryz.isAgg64
 z37:=Tryz.sizeOf64
 v37:=Tryz.zeroValue64
 t70:=Tryz.underlying63
 a70:=Tryz.isAgg63
 z70:=Tryz.sizeOf63
 v70:=Tryz.zeroValue63
 t72:=Tryz.underlying66
 a72:=Tryz.isAgg66
 z72:=Tryz.sizeOf66
 v72:=Tryz.zeroValue66
 t75:=Tryz.underlying68
 a75:=Tryz.isAgg68
 z75:=Tryz.sizeOf68
 v75:=Tryz.zeroValue68
 t76:=Tryz.underlying69
 a76:=Tryz.isAgg69
 z76:=Tryz.sizeOf69
 v76:=Tryz.zeroValue69
 t127:=Tryz.underlying94
 a127:=Tryz.isAgg94
 z127:=Tryz.sizeOf94
 v127:=Tryz.zeroValue94
 t164:=Tryz.underlying113
 a164:=Tryz.isAgg113
 z164:=Tryz.sizeOf113
 v164:=Tryz.zeroValue113}
theorem Tryz.Builder_Extra_156:Builder.Extra Tryz.prog Tryz.lays156_ren:={
 sizeBuilder:=by kernel_rfl
 liesBuilder:=by kernel_rfl
 t5:=Tryz.underlying5
 a5:=Tryz.isAgg5
 z5:=Tryz.sizeOf5
 v5:=Tryz.zeroValue5
 infoByte:=by kernel_rfl
 cellsByte:=by kernel_rfl
 sizeByte:=by kernel_rfl
 neB5:=by decide}
end Go.Proofs
namespace Go.PQ
open Go.Eng Go.Proofs Go.Shelf
set_option maxRecDepth 100000
theorem Vy:uj Tryz.prog 19 (.AMg 66 5):=Go.Eng.APH (P:=Tryz.prog) (r:=Tryz.lays156_ren) ⟨Tryz.f19,Tryz.func19,by kernel_rfl,by kernel_rfl⟩ {Tryz.lays156 with} Tryz.Builder_Extra_156
theorem Zo:uj Tryz.prog 23 (.AKr 66 5):=Go.Eng.AP9 (P:=Tryz.prog) (r:=Tryz.lays156_ren) ⟨Tryz.f23,Tryz.func23,by kernel_rfl,by kernel_rfl⟩ {Tryz.lays156 with} Tryz.Builder_Extra_156
theorem ABE:uj Tryz.prog 36 .join:=Go.Eng.nat_join (P:=Tryz.prog) (r:=Tryz.lays156_ren) ⟨Tryz.f36,Tryz.func36,by kernel_rfl,by kernel_rfl⟩ Tryz.lays156 Tryz.Builder_Extra_156
theorem wR:uj Tryz.prog 38 .rep:=Go.Eng.ASA (P:=Tryz.prog) (r:=Tryz.lays105_ren) ⟨Tryz.f38,Tryz.func38,by kernel_rfl,by kernel_rfl⟩ Tryz.lays105 Tryz.Builder_Extra_105
end Go.PQ
namespace Go.PQ
open Go.Eng
set_option maxRecDepth 100000
abbrev Fg(n:Nat)(a:AF):Prop:=xH Go.Proofs.Tryz.prog F n a
theorem ok1{n:Nat}{a:AF}{fn:Func}{loc:Nat->Bool}{df:Bool}{ords:AIi}{dg:Nat}(hf:Go.Proofs.Tryz.prog.funcs[n]? =some fn)(ht:trF Go.Proofs.Tryz.prog loc df ords dg fn=some a)(hn:(fn.name== "runtime.NumGoroutine")=false:=by kernel_rfl)(hd:a.dg=dg:=by kernel_rfl)(hi:AK2 a.dp=true:=by kernel_rfl):Fg n a:=.one hf hn ht hd hi
theorem Z9:Fg 3 Ju:=ok1 Proofs.Tryz.func3 fE
theorem uQ:Fg 5 Qg:=ok1 Proofs.Tryz.func5 AAD
theorem iE:Fg 6 LY:=ok1 Proofs.Tryz.func6 nV
theorem qM:Fg 7 PL:=ok1 Proofs.Tryz.func7 wQ
theorem uO:Fg 8 Qe:=ok1 Proofs.Tryz.func8 AAI
theorem ABX:Fg 9 VY:=ok1 Proofs.Tryz.func9 AEZ
theorem uJ:Fg 10 Qm:=ok1 Proofs.Tryz.func10 zD
theorem AHD:Fg 11 kG:=ok1 Proofs.Tryz.func11 AKJ
theorem xU:Fg 12 SB:=ok1 Proofs.Tryz.func12 AAh
theorem iF:Fg 13 LK:=ok1 Proofs.Tryz.func13 mO
theorem qL:Fg 14 O9:=ok1 Proofs.Tryz.func14 xY
theorem je:Fg 15 MS:=ok1 Proofs.Tryz.func15 sH
theorem rJ:Fg 16 PE:=ok1 Proofs.Tryz.func16 xX
theorem wE:Fg 17 Ru:=ok1 Proofs.Tryz.func17 ABM
theorem oL:Fg 18 O7:=ok1 Proofs.Tryz.func18 vI
theorem Vp:Fg 19 I4:=.nat _ rfl Vy
theorem wI:Fg 20 Rq:=ok1 Proofs.Tryz.func20 AAw
theorem qp:Fg 21 O1:=ok1 Proofs.Tryz.func21 vH
theorem AD4:Fg 22 ZF:=ok1 Proofs.Tryz.func22 AG1
theorem ZB:Fg 23 Lm:=.nat _ rfl Zo
theorem gQ:Fg 24 LW:=ok1 Proofs.Tryz.func24 mP
theorem pI:Fg 25 PV:=ok1 Proofs.Tryz.func25 vM
theorem VB:Fg 26 FQ:=ok1 Proofs.Tryz.func26 V5
theorem G5:Fg 27 Bf:=ok1 Proofs.Tryz.func27 IB
theorem oQ:Fg 28 PY:=ok1 Proofs.Tryz.func28 vk
theorem uI:Fg 29 Qa:=ok1 Proofs.Tryz.func29 yU
theorem uK:Fg 30 Qk:=ok1 Proofs.Tryz.func30 zq
theorem wX:Fg 31 Sl:=ok1 Proofs.Tryz.func31 AAo
theorem jm:Fg 32 MC:=ok1 Proofs.Tryz.func32 rH
theorem pG:Fg 33 O4:=ok1 Proofs.Tryz.func33 xA
theorem AIR:Fg 34 tC:=ok1 Proofs.Tryz.func34 AMh
theorem AAS:Fg 36 YJ:=.nat _ rfl ABE
theorem wC:Fg 37 SG:=ok1 Proofs.Tryz.func37 ABc
theorem tq:Fg 38 VI:=.nat _ rfl wR
theorem iP:Fg 39 Mc:=ok1 Proofs.Tryz.func39 qH
theorem kK:Fg 40 ML:=ok1 Proofs.Tryz.func40 qW
theorem jr:Fg 41 MK:=ok1 Proofs.Tryz.func41 sF
theorem mX:Fg 42 N7:=ok1 Proofs.Tryz.func42 uP
theorem jE:Fg 43 MG:=ok1 Proofs.Tryz.func43 rF
theorem qm:Fg 44 Pg:=ok1 Proofs.Tryz.func44 wF
theorem dF:Fg 45 KO:=ok1 Proofs.Tryz.func45 kX
theorem iU:Fg 46 MH:=ok1 Proofs.Tryz.func46 qG
theorem JF:Fg 47 CW:=ok1 Proofs.Tryz.func47 Jm
theorem xM:Fg 48 SY:=ok1 Proofs.Tryz.func48 ABN
theorem tu:Fg 49 Qp:=ok1 Proofs.Tryz.func49 yh
theorem jO:Fg 50 L8:=ok1 Proofs.Tryz.func50 qY
theorem jd:Fg 51 NJ:=ok1 Proofs.Tryz.func51 qX
theorem AEB:Fg 52 ZM:=ok1 Proofs.Tryz.func52 AHN
theorem xB:Fg 53 SC:=ok1 Proofs.Tryz.func53 AA1
theorem AES:Fg 54 ZE:=ok1 Proofs.Tryz.func54 AHE
theorem ADO:Fg 55 ZK:=ok1 Proofs.Tryz.func55 AGC
theorem AD6:Fg 56 ZQ:=ok1 Proofs.Tryz.func56 AF5
theorem AD5:Fg 57 Y9:=ok1 Proofs.Tryz.func57 AG3
theorem ACZ:Fg 58 XU:=ok1 Proofs.Tryz.func58 AEf
theorem jw:Fg 59 MR:=ok1 Proofs.Tryz.func59 nZ
theorem xZ:Fg 60 Sj:=ok1 Proofs.Tryz.func60 AAX
theorem wK:Fg 63 Sm:=ok1 Proofs.Tryz.func63 ABV
theorem kZ:Fg 66 ND:=ok1 Proofs.Tryz.func66 ql
theorem iw:Fg 67 Md:=ok1 Proofs.Tryz.func67 sO
theorem gK:Fg 68 LX:=.two Proofs.Tryz.func68 (by kernel_rfl) nT (by kernel_rfl) Ej (by kernel_rfl)
theorem JM:Fg 69 CU:=ok1 Proofs.Tryz.func69 Jk
theorem yB:Fg 70 Rw:=ok1 Proofs.Tryz.func70 AAu
theorem UD:Fg 71 Ey:=ok1 Proofs.Tryz.func71 U9
theorem UA:Fg 72 Eu:=ok1 Proofs.Tryz.func72 U7
theorem wP:Fg 74 SN:=ok1 Proofs.Tryz.func74 ABZ
theorem AGB:Fg 77 jW:=ok1 Proofs.Tryz.func77 AKK
theorem AEs:Fg 78 aJ:=ok1 Proofs.Tryz.func78 AH2
theorem jT:Fg 79 NP:=ok1 Proofs.Tryz.func79 qQ
theorem iT:Fg 80 MB:=ok1 Proofs.Tryz.func80 rC
theorem kY:Fg 83 NC:=ok1 Proofs.Tryz.func83 rY
theorem AAM:Fg 84 UH:=ok1 Proofs.Tryz.func84 ACT
theorem AEh:Fg 85 bC:=ok1 Proofs.Tryz.func85 AI6
theorem wG:Fg 86 Rx:=ok1 Proofs.Tryz.func86 AA4
theorem dO:Fg 87 KY:=ok1 Proofs.Tryz.func87 kL
theorem jy:Fg 88 NR:=.two Proofs.Tryz.func88 (by kernel_rfl) qN (by kernel_rfl) Ej (by kernel_rfl)
theorem eF:Fg 89 KQ:=.two Proofs.Tryz.func89 (by kernel_rfl) jH (by kernel_rfl) Ej (by kernel_rfl)
theorem iH:Fg 90 Kz:=ok1 Proofs.Tryz.func90 mZ
theorem Vx:Fg 91 F8:=ok1 Proofs.Tryz.func91 Xp
theorem dH:Fg 92 KU:=ok1 Proofs.Tryz.func92 kE
theorem eP:Fg 93 KN:=ok1 Proofs.Tryz.func93 jo
theorem Zc:Fg 94 JD:=ok1 Proofs.Tryz.func94 dU
theorem ZI:Fg 95 Ih:=ok1 Proofs.Tryz.func95 aC
theorem V3:Fg 96 F6:=ok1 Proofs.Tryz.func96 Xk
theorem Uc:Fg 97 E8:=ok1 Proofs.Tryz.func97 VJ
theorem Vk:Fg 98 I9:=ok1 Proofs.Tryz.func98 Wj
theorem Yb:Fg 99 IJ:=ok1 Proofs.Tryz.func99 Zf
theorem iG:Fg 100 LQ:=ok1 Proofs.Tryz.func100 nK
theorem WW:Fg 101 Gu:=ok1 Proofs.Tryz.func101 YL
theorem fU:Fg 102 LZ:=.two Proofs.Tryz.func102 (by kernel_rfl) nU (by kernel_rfl) Ej (by kernel_rfl)
theorem Vw:Fg 103 F9:=ok1 Proofs.Tryz.func103 Xy
theorem sD:Fg 104 PS:=ok1 Proofs.Tryz.func104 xu
theorem V6:Fg 105 Fz:=ok1 Proofs.Tryz.func105 Xu
theorem Ur:Fg 106 IE:=ok1 Proofs.Tryz.func106 Vs
theorem YM:Fg 107 Kt:=ok1 Proofs.Tryz.func107 Zg
theorem fC:Fg 108 LC:=ok1 Proofs.Tryz.func108 mG
theorem Wi:Fg 109 J5:=ok1 Proofs.Tryz.func109 YK
theorem XA:Fg 110 J4:=ok1 Proofs.Tryz.func110 YQ
theorem kN:Fg 111 MQ:=ok1 Proofs.Tryz.func111 nY
theorem dY:Fg 112 KL:=ok1 Proofs.Tryz.func112 iy
theorem kV:Fg 113 MJ:=ok1 Proofs.Tryz.func113 rM
theorem uM:Fg 114 Qd:=ok1 Proofs.Tryz.func114 yV
theorem all_good:T.All (λp af=>xH Go.Proofs.Tryz.prog F p.key af) F:=(.n0 (.n0 (.n1 Z9 (.n1 qM (.n1 je (.n1 wX (.n1 wK .e .e) (.n1 ZI .e .e)) (.n1 JF (.n1 jT .e .e) (.n1 kN .e .e))) (.n1 ZB (.n1 iP (.n1 UD .e .e) (.n1 Vw .e .e)) (.n1 ADO (.n1 dO .e .e) .e))) (.n1 AHD (.n1 Vp (.n0 (.n1 iw .e .e) (.n1 Yb .e .e)) (.n1 jd (.n1 kY .e .e) .e)) (.n1 G5 (.n1 jE .e (.n1 YM .e .e)) (.n1 jw (.n1 Vx .e .e) .e)))) (.n1 uQ (.n1 ABX (.n1 wE (.n1 pG .e (.n1 Uc .e .e)) (.n1 tu .e (.n1 kV .e .e))) (.n1 pI (.n1 jr .e (.n1 V6 .e .e)) (.n1 AD5 (.n1 eF .e .e) .e))) (.n1 iF (.n1 qp (.n1 wC (.n1 JM .e .e) (.n1 WW .e .e)) (.n1 xB (.n1 AEh .e .e) .e)) (.n1 uI (.n1 dF (.n1 AGB .e .e) (.n1 Wi .e .e)) (.n0 (.n1 eP .e .e) .e))))) (.n0 (.n0 (.n1 uO (.n1 rJ (.n1 jm .e (.n1 V3 .e .e)) (.n1 xM (.n1 iT .e .e) (.n1 dY .e .e))) (.n1 gQ (.n1 kK (.n1 UA .e .e) (.n1 sD .e .e)) (.n1 AD6 (.n1 jy .e .e) .e))) (.n1 xU (.n1 wI (.n1 AAS (.n1 gK .e .e) (.n1 iG .e .e)) (.n1 AEB (.n1 AAM .e .e) .e)) (.n1 oQ (.n1 qm .e (.n1 fC .e .e)) (.n1 xZ (.n1 dH .e .e) .e)))) (.n1 iE (.n1 uJ (.n1 oL (.n1 AIR (.n1 kZ .e .e) (.n1 Vk .e .e)) (.n1 jO .e (.n1 uM .e .e))) (.n1 VB (.n1 mX (.n1 wP .e .e) (.n1 Ur .e .e)) (.n1 ACZ (.n1 iH .e .e) .e))) (.n1 qL (.n1 AD4 (.n1 tq (.n1 yB .e .e) (.n1 fU .e .e)) (.n1 AES (.n1 wG .e .e) .e)) (.n1 uK (.n1 iU (.n1 AEs .e .e) (.n1 XA .e .e)) (.n0 (.n1 Zc .e .e) .e))))))
theorem AV5:AFQ Go.Proofs.Tryz.prog F:=.AVh (by kernel_rfl) all_good
end Go.PQ
