/- Part of a proof; nothing is assumed. -/
import Derived.Test.YtcjkfmaoahojeaaGreatDoorEngA
import Derived.Test.YtcjkfmaoahojeaaGreatDoorEngF
import Derived.Test.YtcjkfmaoahojeaaGreatDoorProg
import Derived.Test.YtcjkfmaoahojeaaGreatDoorEngG
set_option linter.unusedVariables false
set_option linter.unusedSimpArgs false
noncomputable section
namespace Go.PQ
open Go.Eng
set_option maxRecDepth 100000
abbrev tr(l:List (Nat×Nat))(d:Bool)(o:AJC)(g:Nat)(f:Func):Option AF:=trF Go.Proofs.Tryz.prog (inR l) d o g f
abbrev VG:=tr [(14,14),(16,17),(19,28),(30,39),(44,46),(60,78)] false [(14,[(0,.plain),(1,.plain),(2,.plain),(3,.plain),(4,.plain),(5,.plain),(6,.plain),(7,.plain),(8,.plain),(9,.plain),(10,.plain),(11,.plain),(12,.plain),(13,.wr)])] 0 Proofs.Tryz.f4
def JM:=Bq VG
theorem dZ:VG=some JM:=Af (by kernel_rfl)
abbrev iC:=tr [(3,41)] false [] 0 Proofs.Tryz.f5
def Qu:=Bq iC
theorem AAm:iC=some Qu:=Af (by kernel_rfl)
abbrev YR:=tr [(5,23),(25,25),(30,46),(48,48)] false [] 0 Proofs.Tryz.f6
def LY:=Bq YR
theorem nN:YR=some LY:=Af (by kernel_rfl)
abbrev bP:=tr [(7,13),(15,26),(31,32),(55,56)] false [(9,opp [0,1,2,3,4,6,7,8,9,10,12,13,15,16,5,11,14,17,18,19,20,21,22])] 0 Proofs.Tryz.f7
def Py:=Bq bP
theorem xO:bP=some Py:=Af (by kernel_rfl)
abbrev iH:=tr [(8,13),(15,20),(25,26),(37,38),(43,44),(53,55)] false [(9,opp [0,1,5,6,2,3,4,7,8,9]),(14,opp [0,2,3,1,4,5,6,7])] 0 Proofs.Tryz.f8
def Qq:=Bq iH
theorem zI:iH=some Qq:=Af (by kernel_rfl)
abbrev vV:=tr [(8,14),(18,24),(31,32)] false [(3,dY 4),(7,dY 7)] 0 Proofs.Tryz.f9
def VZ:=Bq vV
theorem AEo:vV=some VZ:=Af (by kernel_rfl)
abbrev iT:=tr [(5,30)] false [] 0 Proofs.Tryz.f10
def Q7:=Bq iT
theorem zZ:iT=some Q7:=Af (by kernel_rfl)
abbrev AFY:=tr [(8,13),(20,27),(35,40),(42,43)] false [(3,dY 7),(8,dY 8)] 0 Proofs.Tryz.f11
def jT:=Bq AFY
theorem AKg:AFY=some jT:=Af (by kernel_rfl)
abbrev l7:=tr [(6,41)] false [(3,dY 4),(4,dY 13)] 0 Proofs.Tryz.f12
def TM:=Bq l7
theorem AB2:l7=some TM:=Af (by kernel_rfl)
abbrev Yc:=tr [(9,14),(20,53),(55,55),(60,63),(65,66)] false [] 0 Proofs.Tryz.f13
def Lc:=Bq Yc
theorem oL:Yc=some Lc:=Af (by kernel_rfl)
abbrev dD:=tr [(3,9)] false [] 0 Proofs.Tryz.f14
def P7:=Bq dD
theorem xX:dD=some P7:=Af (by kernel_rfl)
abbrev ZO:=tr [(6,6),(11,12),(24,25)] false [(5,[(0,.plain),(1,.plain),(2,.plain),(3,.plain),(5,.plain),(6,.plain),(4,.plain),(7,.plain),(8,.plain),(9,.plain),(10,.plain),(11,.wr)])] 0 Proofs.Tryz.f15
def NG:=Bq ZO
theorem ql:ZO=some NG:=Af (by kernel_rfl)
abbrev bg:=tr [(3,9)] false [] 0 Proofs.Tryz.f16
def PG:=Bq bg
theorem yT:bg=some PG:=Af (by kernel_rfl)
abbrev mD:=tr [(4,7),(9,14)] false [(4,opp [0,3,4,7,8,1,2,5,6,9,10])] 0 Proofs.Tryz.f17
def SN:=Bq mD
theorem AAy:mD=some SN:=Af (by kernel_rfl)
abbrev bZ:=tr [(12,12),(17,23),(25,39),(49,65),(67,87),(95,100),(102,108),(110,117),(119,130)] false [(21,dY 6),(12,dY 8)] 0 Proofs.Tryz.f18
def PI:=Bq bZ
theorem xP:bZ=some PI:=Af (by kernel_rfl)
def JE:AF:=.nat (.ANQ 66 5)
abbrev mG:=tr [(3,3),(5,9)] false [] 0 Proofs.Tryz.f20
def SS:=Bq mG
theorem ABP:mG=some SS:=Af (by kernel_rfl)
abbrev bY:=tr [(7,7),(9,9),(14,15),(26,26)] false [(8,[(0,.plain),(1,.plain),(2,.plain),(5,.plain),(6,.plain),(3,.plain),(4,.plain),(7,.plain),(8,.plain),(9,.plain),(10,.wr)]),(10,opp [0,1,2,6,7,10,3,4,5,8,9,11,12,13,14])] 0 Proofs.Tryz.f21
def PD:=Bq bY
theorem yE:bY=some PD:=Af (by kernel_rfl)
abbrev ACf:=tr [(8,8),(13,25)] false [] 0 Proofs.Tryz.f22
def Zc:=Bq ACf
theorem AGa:ACf=some Zc:=Af (by kernel_rfl)
def MC:AF:=.nat (.ALH 66 5)
abbrev Xu:=tr [(5,19),(21,32),(34,35),(37,40),(50,57),(59,61),(69,84),(86,88)] false [(11,opp [0,1,2,4,3,5,6,7,8,9]),(15,dY 8)] 0 Proofs.Tryz.f24
def Lj:=Bq Xu
theorem nK:Xu=some Lj:=Af (by kernel_rfl)
abbrev bW:=tr [(3,8)] false [] 0 Proofs.Tryz.f25
def Po:=Bq bW
theorem yN:bW=some Po:=Af (by kernel_rfl)
abbrev Ol:=tr [(6,9),(11,11),(15,15),(25,25)] false [(6,dY 9)] 0 Proofs.Tryz.f26
def Fa:=Bq Ol
theorem WL:Ol=some Fa:=Af (by kernel_rfl)
abbrev ER:=tr [(10,13),(19,29),(31,31)] false [] 0 Proofs.Tryz.f27
def Bg:=Bq ER
theorem IY:ER=some Bg:=Af (by kernel_rfl)
abbrev bJ:=tr [(5,37)] false [] 0 Proofs.Tryz.f28
def Pm:=Bq bJ
theorem yj:bJ=some Pm:=Af (by kernel_rfl)
abbrev gU:=tr [(24,39),(61,61),(73,75)] false [(0,dY 10),(1,dY 10),(4,dY 11),(5,dY 11),(7,dY 11)] 0 Proofs.Tryz.f29
def Q8:=Bq gU
theorem AAQ:gU=some Q8:=Af (by kernel_rfl)
abbrev iK:=tr [(9,13),(24,24),(37,37),(49,52),(54,59),(61,68),(70,70),(72,85),(87,87),(89,92),(94,109)] false [(2,dY 10),(4,dY 10),(8,dY 11)] 0 Proofs.Tryz.f30
def Qr:=Bq iK
theorem AAZ:iK=some Qr:=Af (by kernel_rfl)
abbrev mF:=tr [(7,26),(28,28),(33,38),(40,40)] false [] 0 Proofs.Tryz.f31
def Sl:=Bq mF
theorem AB4:mF=some Sl:=Af (by kernel_rfl)
abbrev Y7:=tr [(4,7),(9,15)] false [] 0 Proofs.Tryz.f32
def NY:=Bq Y7
theorem pz:Y7=some NY:=Af (by kernel_rfl)
abbrev dF:=tr [(10,21),(23,27),(29,32),(34,37),(39,46),(48,58),(60,61),(72,82),(84,85),(95,99),(101,110),(112,120),(122,128),(130,142),(144,154)] false [(22,dY 10),(29,dY 9)] 0 Proofs.Tryz.f33
def Ph:=Bq dF
theorem xY:dF=some Ph:=Af (by kernel_rfl)
abbrev AJN:=tr [(3,4)] false [] 0 Proofs.Tryz.f34
def uS:=Bq AJN
theorem ANp:AJN=some uS:=Af (by kernel_rfl)
def Ym:AF:=.nat .join
abbrev mJ:=tr [(7,10),(13,13),(30,30),(41,41),(54,56),(58,67),(69,69),(84,90),(92,103)] false [(4,opp [0,1,2,3,7,8,11,4,5,6,9,10,12,13,14,15]),(6,opp [0,1,5,2,3,4,6,7,8,9]),(8,opp [0,1,2,6,7,8,9,3,4,5,10,11,12]),(13,opp [0,1,2,6,7,8,9,3,4,5,10,11,12,13])] 0 Proofs.Tryz.f37
def S9:=Bq mJ
theorem AA3:mJ=some S9:=Af (by kernel_rfl)
def Vk:AF:=.nat .rep
abbrev ZN:=tr [(10,14),(16,18)] false [] 0 Proofs.Tryz.f39
def Mc:=Bq ZN
theorem sF:ZN=some Mc:=Af (by kernel_rfl)
abbrev ZA:=tr [(5,17),(19,23)] false [] 0 Proofs.Tryz.f40
def MS:=Bq ZA
theorem og:ZA=some MS:=Af (by kernel_rfl)
abbrev Y4:=tr [(5,8),(10,11)] false [] 0 Proofs.Tryz.f41
def NC:=Bq Y4
theorem sH:Y4=some NC:=Af (by kernel_rfl)
abbrev Z4:=tr [(4,6),(8,12)] false [] 0 Proofs.Tryz.f42
def OW:=Bq Z4
theorem uX:Z4=some OW:=Af (by kernel_rfl)
abbrev ZC:=tr [(4,4),(6,7)] false [] 0 Proofs.Tryz.f43
def MQ:=Bq ZC
theorem rX:ZC=some MQ:=Af (by kernel_rfl)
abbrev bf:=tr [(11,44),(46,46)] false [] 0 Proofs.Tryz.f44
def Pn:=Bq bf
theorem yA:bf=some Pn:=Af (by kernel_rfl)
abbrev Wu:=tr [(6,12),(17,34),(36,38),(40,44),(54,62)] false [(2,opp [0,1,4,2,3,5]),(11,opp [0,1,2,4,3,5,6,7,8,9])] 0 Proofs.Tryz.f45
def KW:=Bq Wu
theorem lT:Wu=some KW:=Af (by kernel_rfl)
abbrev ZF:=tr [(4,8),(10,21)] false [] 0 Proofs.Tryz.f46
def NV:=Bq ZF
theorem rG:ZF=some NV:=Af (by kernel_rfl)
abbrev Ey:=tr [(10,13),(19,29),(31,31)] false [] 0 Proofs.Tryz.f47
def CW:=Bq Ey
theorem Js:Ey=some CW:=Af (by kernel_rfl)
abbrev mZ:=tr [(5,44)] false [] 0 Proofs.Tryz.f48
def TN:=Bq mZ
theorem ABv:mZ=some TN:=Af (by kernel_rfl)
abbrev iZ:=tr [(7,15),(26,43)] false [(3,dY 10)] 0 Proofs.Tryz.f49
def Qs:=Bq iZ
theorem AAt:iZ=some Qs:=Af (by kernel_rfl)
abbrev ZL:=tr [(5,7)] false [] 0 Proofs.Tryz.f50
def MR:=Bq ZL
theorem tZ:ZL=some MR:=Af (by kernel_rfl)
abbrev ZB:=tr [(5,7)] false [] 0 Proofs.Tryz.f51
def NH:=Bq ZB
theorem qY:ZB=some NH:=Af (by kernel_rfl)
abbrev ACJ:=tr [(3,8)] false [] 0 Proofs.Tryz.f52
def ZT:=Bq ACJ
theorem AGy:ACJ=some ZT:=Af (by kernel_rfl)
abbrev nI:=tr [(33,34)] false [(2,dY 27),(4,dY 16)] 0 Proofs.Tryz.f53
def TR:=Bq nI
theorem ABf:nI=some TR:=Af (by kernel_rfl)
abbrev AB9:=tr [(3,16)] false [] 0 Proofs.Tryz.f54
def Zj:=Bq AB9
theorem AGu:AB9=some Zj:=Af (by kernel_rfl)
abbrev ACl:=tr [(3,8)] false [] 0 Proofs.Tryz.f55
def Zg:=Bq ACl
theorem AGx:ACl=some Zg:=Af (by kernel_rfl)
abbrev ACm:=tr [(5,25)] false [] 0 Proofs.Tryz.f56
def ZQ:=Bq ACm
theorem AHZ:ACm=some ZQ:=Af (by kernel_rfl)
abbrev ACi:=tr [(3,8)] false [] 0 Proofs.Tryz.f57
def ZU:=Bq ACi
theorem AHP:ACi=some ZU:=Af (by kernel_rfl)
abbrev AAi:=tr [(7,7),(12,20),(22,23)] false [] 0 Proofs.Tryz.f58
def Xr:=Bq AAi
theorem AE4:AAi=some Xr:=Af (by kernel_rfl)
abbrev Y5:=tr [(5,11),(13,13)] false [(3,dY 13)] 0 Proofs.Tryz.f59
def Md:=Bq Y5
theorem qh:Y5=some Md:=Af (by kernel_rfl)
abbrev mP:=tr [(3,5)] false [] 0 Proofs.Tryz.f60
def TD:=Bq mP
theorem AAz:mP=some TD:=Af (by kernel_rfl)
abbrev mQ:=tr [(5,8),(10,15)] false [] 0 Proofs.Tryz.f63
def Sr:=Bq mQ
theorem ABa:mQ=some Sr:=Af (by kernel_rfl)
abbrev Y1:=tr [(4,11),(13,21)] false [] 0 Proofs.Tryz.f66
def NM:=Bq Y1
theorem tH:Y1=some NM:=Af (by kernel_rfl)
abbrev Y3:=tr [(4,6),(8,13)] false [] 0 Proofs.Tryz.f67
def MZ:=Bq Y3
theorem sN:Y3=some MZ:=Af (by kernel_rfl)
abbrev YF:=tr [(4,14),(16,21)] true [] 87 Proofs.Tryz.f68
def LW:=Bq YF
theorem oD:YF=some LW:=Af (by kernel_rfl)
abbrev Ez:=tr [(10,13),(19,29),(31,31)] false [] 0 Proofs.Tryz.f69
def CV:=Bq Ez
theorem Jw:Ez=some CV:=Af (by kernel_rfl)
abbrev lq:=tr [(5,37)] false [] 0 Proofs.Tryz.f70
def TJ:=Bq lq
theorem ABy:lq=some TJ:=Af (by kernel_rfl)
abbrev NJ:=tr [(5,17)] false [] 0 Proofs.Tryz.f71
def FB:=Bq NJ
theorem VX:NJ=some FB:=Af (by kernel_rfl)
abbrev NU:=tr [(5,7)] false [] 0 Proofs.Tryz.f72
def FH:=Bq NU
theorem VQ:NU=some FH:=Af (by kernel_rfl)
abbrev lZ:=tr [(3,3),(6,9),(11,11),(13,13),(15,15),(17,19),(21,21),(29,29),(43,43),(58,63),(65,65),(76,76),(85,88),(90,94),(96,100),(102,102),(116,116),(126,126),(136,136),(147,147)] false [(13,opp [0,3,4,1,2,5,6]),(15,opp [0,3,4,7,1,2,5,6,8,9,10,11,12]),(17,dY 14),(21,dY 10),(23,opp [0,3,1,2,4,5,6,7]),(31,opp [0,4,5,8,1,2,3,6,7,9,10,11,12]),(33,opp [0,4,1,2,3,5,6,7,8]),(35,opp [0,4,1,2,3,5,6,7,8]),(37,opp [0,4,5,6,1,2,3,7,8,9]),(39,opp [0,4,5,6,1,2,3,7,8,9])] 0 Proofs.Tryz.f74
def Sm:=Bq lZ
theorem ABK:lZ=some Sm:=Af (by kernel_rfl)
abbrev AFU:=tr [(1,1)] false [] 0 Proofs.Tryz.f77
def jS:=Bq AFU
theorem ALY:AFU=some jS:=Af (by kernel_rfl)
abbrev AD4:=tr [(1,1)] false [] 0 Proofs.Tryz.f78
def dI:=Bq AD4
theorem AJS:AD4=some dI:=Af (by kernel_rfl)
abbrev Y8:=tr [(3,13),(15,17)] false [] 0 Proofs.Tryz.f79
def MJ:=Bq Y8
theorem oW:Y8=some MJ:=Af (by kernel_rfl)
abbrev Y6:=tr [(4,13),(15,30),(32,36),(38,48),(50,56),(58,68)] false [] 0 Proofs.Tryz.f80
def Na:=Bq Y6
theorem qC:Y6=some Na:=Af (by kernel_rfl)
abbrev ZP:=tr [(5,7)] false [] 0 Proofs.Tryz.f83
def MP:=Bq ZP
theorem qj:ZP=some MP:=Af (by kernel_rfl)
abbrev oh:=tr [(5,8),(10,15)] false [] 0 Proofs.Tryz.f84
def Uh:=Bq oh
theorem ACv:oh=some Uh:=Af (by kernel_rfl)
abbrev AEq:=tr [(10,19)] false [] 0 Proofs.Tryz.f85
def dP:=Bq AEq
theorem AID:AEq=some dP:=Af (by kernel_rfl)
abbrev nH:=tr [(3,9)] false [] 0 Proofs.Tryz.f86
def TQ:=Bq nH
theorem ABJ:nH=some TQ:=Af (by kernel_rfl)
abbrev Wj:=tr [(1,7)] false [] 0 Proofs.Tryz.f87
def Kt:=Bq Wj
theorem jc:Wj=some Kt:=Af (by kernel_rfl)
abbrev ZJ:=tr [(3,7)] true [] 87 Proofs.Tryz.f88
def Nh:=Bq ZJ
theorem oV:ZJ=some Nh:=Af (by kernel_rfl)
abbrev Wq:=tr [(4,24),(26,27),(29,36)] true [] 87 Proofs.Tryz.f89
def Ko:=Bq Wq
theorem kH:Wq=some Ko:=Af (by kernel_rfl)
abbrev YP:=tr [(5,6),(15,17),(19,25),(27,40),(42,46)] false [(1,dY 10),(8,dY 16)] 0 Proofs.Tryz.f90
def LX:=Bq YP
theorem nO:YP=some LX:=Af (by kernel_rfl)
abbrev QF:=tr [(8,8),(10,10),(12,16),(18,22),(24,33),(35,53)] false [] 0 Proofs.Tryz.f91
def Gg:=Bq QF
theorem YV:QF=some Gg:=Af (by kernel_rfl)
abbrev Wx:=tr [(11,15),(17,19),(27,27)] false [(4,dY 8)] 0 Proofs.Tryz.f92
def KZ:=Bq Wx
theorem lH:Wx=some KZ:=Af (by kernel_rfl)
abbrev Wh:=tr [(2,5)] false [] 0 Proofs.Tryz.f93
def KT:=Bq Wh
theorem kN:Wh=some KT:=Af (by kernel_rfl)
abbrev VJ:=tr [(6,10),(12,13),(23,23)] false [(5,dY 10)] 0 Proofs.Tryz.f94
def JX:=Bq VJ
theorem dh:VJ=some JX:=Af (by kernel_rfl)
abbrev UZ:=tr [(3,3),(5,14)] false [] 0 Proofs.Tryz.f95
def I5:=Bq UZ
theorem ak:UZ=some I5:=Af (by kernel_rfl)
abbrev QA:=tr [(4,14)] false [] 0 Proofs.Tryz.f96
def Gf:=Bq QA
theorem Xv:QA=some Gf:=Af (by kernel_rfl)
abbrev N9:=tr [(17,19),(21,41),(94,98),(100,109),(136,138),(140,144),(158,160),(162,166)] false [(7,dY 15),(8,dY 15),(9,dY 15),(10,dY 15),(17,dY 15),(18,dY 15),(23,dY 15)] 0 Proofs.Tryz.f97
def FT:=Bq N9
theorem Vo:N9=some FT:=Af (by kernel_rfl)
abbrev O6:=tr [(19,27),(29,29),(31,33),(35,45),(47,67),(69,88),(90,93),(95,101)] false [] 0 Proofs.Tryz.f98
def JF:=Bq O6
theorem Xd:O6=some JF:=Af (by kernel_rfl)
abbrev Td:=tr [(2,5)] false [] 0 Proofs.Tryz.f99
def Ii:=Bq Td
theorem aK:Td=some Ii:=Af (by kernel_rfl)
abbrev X6:=tr [(9,12),(14,15),(25,25)] false [(4,dY 10)] 0 Proofs.Tryz.f100
def LU:=Bq X6
theorem nV:X6=some LU:=Af (by kernel_rfl)
abbrev Q5:=tr [(2,6)] false [] 0 Proofs.Tryz.f101
def G7:=Bq Q5
theorem Yd:Q5=some G7:=Af (by kernel_rfl)
abbrev YU:=tr [(9,15),(20,25),(27,30),(42,46),(48,51),(62,62)] true [(8,dY 15),(16,opp [0,1,2,3,6,7,4,5,8,9])] 87 Proofs.Tryz.f102
def Ll:=Bq YU
theorem nP:YU=some Ll:=Af (by kernel_rfl)
abbrev QH:=tr [(3,5)] false [] 0 Proofs.Tryz.f103
def GU:=Bq QH
theorem YI:QH=some GU:=Af (by kernel_rfl)
abbrev bU:=tr [(3,3),(5,7),(9,13),(15,24)] false [] 0 Proofs.Tryz.f104
def PS:=Bq bU
theorem xk:bU=some PS:=Af (by kernel_rfl)
abbrev QM:=tr [] false [] 0 Proofs.Tryz.f105
def GX:=Bq QM
theorem YJ:QM=some GX:=Af (by kernel_rfl)
abbrev OA:=tr [(3,7)] false [] 0 Proofs.Tryz.f106
def Ig:=Bq OA
theorem Vy:OA=some Ig:=Af (by kernel_rfl)
abbrev TY:=tr [(3,7)] false [] 0 Proofs.Tryz.f107
def Ky:=Bq TY
theorem Zu:TY=some Ky:=Af (by kernel_rfl)
abbrev YD:=tr [(5,14),(16,17),(24,26),(28,33)] false [(5,dY 7)] 0 Proofs.Tryz.f108
def LQ:=Bq YD
theorem ng:YD=some LQ:=Af (by kernel_rfl)
abbrev RD:=tr [(3,3),(5,13)] false [] 0 Proofs.Tryz.f109
def KD:=Bq RD
theorem Yl:RD=some KD:=Af (by kernel_rfl)
abbrev Qn:=tr [(3,3),(5,13)] false [] 0 Proofs.Tryz.f110
def KF:=Bq Qn
theorem Yz:Qn=some KF:=Af (by kernel_rfl)
abbrev Y2:=tr [(5,15),(17,20),(22,26),(32,36),(42,59),(61,63),(65,67),(69,71),(73,75),(77,83),(85,95),(97,98),(100,107)] false [(8,dY 6),(11,dY 6)] 0 Proofs.Tryz.f111
def NZ:=Bq Y2
theorem uD:Y2=some NZ:=Af (by kernel_rfl)
abbrev Ws:=tr [(8,8),(10,18),(20,24)] false [(6,dY 9)] 0 Proofs.Tryz.f112
def Kr:=Bq Ws
theorem kF:Ws=some Kr:=Af (by kernel_rfl)
abbrev ZH:=tr [(4,12),(14,15),(17,29)] false [] 0 Proofs.Tryz.f113
def NQ:=Bq ZH
theorem rC:ZH=some NQ:=Af (by kernel_rfl)
abbrev iy:=tr [(3,22)] false [] 0 Proofs.Tryz.f114
def Qv:=Bq iy
theorem zA:iy=some Qv:=Af (by kernel_rfl)
def F:T AF:=(.n none (.n none (.n none (.n (some Py) (.n (some NG) (.n (some Sl) (.n (some Sr) .e .e) (.n (some I5) .e .e)) (.n (some CW) (.n (some MJ) .e .e) (.n (some NZ) .e .e))) (.n (some MC) (.n (some Mc) (.n (some FB) .e .e) (.n (some GU) .e .e)) (.n (some Zg) (.n (some Kt) .e .e) .e))) (.n (some jT) (.n (some JE) (.n none (.n (some MZ) .e .e) (.n (some Ii) .e .e)) (.n (some NH) (.n (some MP) .e .e) .e)) (.n (some Bg) (.n (some MQ) .e (.n (some Ky) .e .e)) (.n (some Md) (.n (some Gg) .e .e) .e)))) (.n (some Qu) (.n (some VZ) (.n (some SN) (.n (some Ph) .e (.n (some FT) .e .e)) (.n (some Qs) .e (.n (some NQ) .e .e))) (.n (some Po) (.n (some NC) .e (.n (some GX) .e .e)) (.n (some ZU) (.n (some Ko) .e .e) .e))) (.n (some Lc) (.n (some PD) (.n (some S9) (.n (some CV) .e .e) (.n (some G7) .e .e)) (.n (some TR) (.n (some dP) .e .e) .e)) (.n (some Q8) (.n (some KW) (.n (some jS) .e .e) (.n (some KD) .e .e)) (.n none (.n (some KT) .e .e) .e))))) (.n none (.n (some JM) (.n (some Qq) (.n (some PG) (.n (some NY) .e (.n (some Gf) .e .e)) (.n (some TN) (.n (some Na) .e .e) (.n (some Kr) .e .e))) (.n (some Lj) (.n (some MS) (.n (some FH) .e .e) (.n (some PS) .e .e)) (.n (some ZQ) (.n (some Nh) .e .e) .e))) (.n (some TM) (.n (some SS) (.n (some Ym) (.n (some LW) .e .e) (.n (some LU) .e .e)) (.n (some ZT) (.n (some Uh) .e .e) .e)) (.n (some Pm) (.n (some Pn) .e (.n (some LQ) .e .e)) (.n (some TD) (.n (some KZ) .e .e) .e)))) (.n (some LY) (.n (some Q7) (.n (some PI) (.n (some uS) (.n (some NM) .e .e) (.n (some JF) .e .e)) (.n (some MR) .e (.n (some Qv) .e .e))) (.n (some Fa) (.n (some OW) (.n (some Sm) .e .e) (.n (some Ig) .e .e)) (.n (some Xr) (.n (some LX) .e .e) .e))) (.n (some P7) (.n (some Zc) (.n (some Vk) (.n (some TJ) .e .e) (.n (some Ll) .e .e)) (.n (some Zj) (.n (some TQ) .e .e) .e)) (.n (some Qr) (.n (some NV) (.n (some dI) .e .e) (.n (some KF) .e .e)) (.n none (.n (some JX) .e .e) .e))))))
theorem Nu:T.get F 4=some JM:=by kernel_rfl
theorem Vd:T.get F 5=some Qu:=by kernel_rfl
theorem QV:T.get F 6=some LY:=by kernel_rfl
theorem U1:T.get F 7=some Py:=by kernel_rfl
theorem WB:T.get F 8=some Qq:=by kernel_rfl
theorem Zy:T.get F 9=some VZ:=by kernel_rfl
theorem WI:T.get F 10=some Q7:=by kernel_rfl
theorem wI:T.get F 11=some jT:=by kernel_rfl
theorem XB:T.get F 12=some TM:=by kernel_rfl
theorem QZ:T.get F 13=some Lc:=by kernel_rfl
theorem Uw:T.get F 14=some P7:=by kernel_rfl
theorem SG:T.get F 15=some NG:=by kernel_rfl
theorem U5:T.get F 16=some PG:=by kernel_rfl
theorem Xj:T.get F 17=some SN:=by kernel_rfl
theorem Ux:T.get F 18=some PI:=by kernel_rfl
theorem XR:T.get F 19=some JE:=by kernel_rfl
theorem XW:T.get F 20=some SS:=by kernel_rfl
theorem U8:T.get F 21=some PD:=by kernel_rfl
theorem jg:T.get F 22=some Zc:=by kernel_rfl
theorem aS:T.get F 23=some MC:=by kernel_rfl
theorem Qe:T.get F 24=some Lj:=by kernel_rfl
theorem VE:T.get F 25=some Po:=by kernel_rfl
theorem Ir:T.get F 26=some Fa:=by kernel_rfl
theorem DN:T.get F 27=some Bg:=by kernel_rfl
theorem Uy:T.get F 28=some Pm:=by kernel_rfl
theorem Vs:T.get F 29=some Q8:=by kernel_rfl
theorem Vw:T.get F 30=some Qr:=by kernel_rfl
theorem XP:T.get F 31=some Sl:=by kernel_rfl
theorem Rx:T.get F 32=some NY:=by kernel_rfl
theorem U7:T.get F 33=some Ph:=by kernel_rfl
theorem gQ:T.get F 34=some uS:=by kernel_rfl
theorem ACw:T.get F 36=some Ym:=by kernel_rfl
theorem Cm:T.get F 37=some S9:=by kernel_rfl
theorem zB:T.get F 38=some Vk:=by kernel_rfl
theorem RY:T.get F 39=some Mc:=by kernel_rfl
theorem RV:T.get F 40=some MS:=by kernel_rfl
theorem SK:T.get F 41=some NC:=by kernel_rfl
theorem Tv:T.get F 42=some OW:=by kernel_rfl
theorem Rq:T.get F 43=some MQ:=by kernel_rfl
theorem U3:T.get F 44=some Pn:=by kernel_rfl
theorem P6:T.get F 45=some KW:=by kernel_rfl
theorem Rz:T.get F 46=some NV:=by kernel_rfl
theorem Du:T.get F 47=some CW:=by kernel_rfl
theorem Xb:T.get F 48=some TN:=by kernel_rfl
theorem Ve:T.get F 49=some Qs:=by kernel_rfl
theorem SE:T.get F 50=some MR:=by kernel_rfl
theorem RP:T.get F 51=some NH:=by kernel_rfl
theorem jk:T.get F 52=some ZT:=by kernel_rfl
theorem XD:T.get F 53=some TR:=by kernel_rfl
theorem lC:T.get F 54=some Zj:=by kernel_rfl
theorem jY:T.get F 55=some Zg:=by kernel_rfl
theorem jJ:T.get F 56=some ZQ:=by kernel_rfl
theorem jI:T.get F 57=some ZU:=by kernel_rfl
theorem eP:T.get F 58=some Xr:=by kernel_rfl
theorem Jq:T.get F 59=some Md:=by kernel_rfl
theorem Xc:T.get F 60=some TD:=by kernel_rfl
theorem XK:T.get F 63=some Sr:=by kernel_rfl
theorem Ro:T.get F 66=some NM:=by kernel_rfl
theorem RQ:T.get F 67=some MZ:=by kernel_rfl
theorem Qb:T.get F 68=some LW:=by kernel_rfl
theorem Dq:T.get F 69=some CV:=by kernel_rfl
theorem XI:T.get F 70=some TJ:=by kernel_rfl
theorem II:T.get F 71=some FB:=by kernel_rfl
theorem IK:T.get F 72=some FH:=by kernel_rfl
theorem Ag:T.get F 74=some Sm:=by kernel_rfl
theorem wo:T.get F 77=some jS:=by kernel_rfl
theorem rO:T.get F 78=some dI:=by kernel_rfl
theorem Rw:T.get F 79=some MJ:=by kernel_rfl
theorem SI:T.get F 80=some Na:=by kernel_rfl
theorem RZ:T.get F 83=some MP:=by kernel_rfl
theorem Yp:T.get F 84=some Uh:=by kernel_rfl
theorem rD:T.get F 85=some dP:=by kernel_rfl
theorem XT:T.get F 86=some TQ:=by kernel_rfl
theorem Eu:T.get F 87=some Kt:=by kernel_rfl
theorem RN:T.get F 88=some Nh:=by kernel_rfl
theorem PO:T.get F 89=some Ko:=by kernel_rfl
theorem QX:T.get F 90=some LX:=by kernel_rfl
theorem Ja:T.get F 91=some Gg:=by kernel_rfl
theorem PZ:T.get F 92=some KZ:=by kernel_rfl
theorem PW:T.get F 93=some KT:=by kernel_rfl
theorem Nq:T.get F 94=some JX:=by kernel_rfl
theorem Lu:T.get F 95=some I5:=by kernel_rfl
theorem Jj:T.get F 96=some Gf:=by kernel_rfl
theorem Ia:T.get F 97=some FT:=by kernel_rfl
theorem LG:T.get F 99=some Ii:=by kernel_rfl
theorem QW:T.get F 100=some LU:=by kernel_rfl
theorem KH:T.get F 101=some G7:=by kernel_rfl
theorem Qd:T.get F 102=some Ll:=by kernel_rfl
theorem Jd:T.get F 103=some GU:=by kernel_rfl
theorem U2:T.get F 104=some PS:=by kernel_rfl
theorem Jo:T.get F 105=some GX:=by kernel_rfl
theorem Qj:T.get F 108=some LQ:=by kernel_rfl
theorem RX:T.get F 111=some NZ:=by kernel_rfl
theorem Pz:T.get F 112=some Kr:=by kernel_rfl
theorem Rj:T.get F 113=some NQ:=by kernel_rfl
theorem V5:T.get F 114=some Qv:=by kernel_rfl
end Go.PQ
namespace Go.Proofs
open Go.Shelf
def Tryz.lays105_ren:Go.Shelf.Ren:=⟨λ|105=>38|212=>64|99=>50|165=>62|166=>19|170=>65|169=>23|263=>75|264=>76|206=>71|240=>35|241=>73|276=>61|277=>82|n=>n,λ|9=>9|3=>3|4=>4|20=>20|0=>0|46=>115|109=>116|5=>5|72=>66|76=>69|51=>124|146=>125|53=>127|148=>128|70=>63|37=>64|75=>68|127=>94|164=>113|80=>31|n=>n,λ|n=>n⟩
theorem Tryz.lays105:Go.Proofs.Lays.n105 Tryz.prog Tryz.lays105_ren:={
 mixed:=by kernel_rfl
 f99:=Tryz.func50.trans (congrArg some (by kernel_rfl))
 f105:=Tryz.func38.trans (congrArg some (by kernel_rfl))
 f165:=Tryz.func62.trans (congrArg some (by kernel_rfl))
 f166:=Tryz.func19.trans (congrArg some (by kernel_rfl))
 f169:=Tryz.func23.trans (congrArg some (by kernel_rfl))
 f170:=Tryz.func65.trans (congrArg some (by kernel_rfl))
 f206:=Tryz.func71.trans (congrArg some (by kernel_rfl))
 f212:=Tryz.func64.trans (congrArg some (by kernel_rfl))
 f240:=Tryz.func35.trans (congrArg some (by kernel_rfl))
 f241:=Tryz.func73.trans (congrArg some (by kernel_rfl))
 f263:=Tryz.func75.trans (congrArg some (by kernel_rfl))
 f264:=Tryz.func76.trans (congrArg some (by kernel_rfl))
 f276:=Tryz.func61.trans (congrArg some (by kernel_rfl))
 f277:=Tryz.func82.trans (congrArg some (by kernel_rfl))
 t0:=Tryz.underlying0
 a0:=Tryz.isAgg0
 z0:=Tryz.sizeOf0
 v0:=Tryz.zeroValue0
 t3:=Tryz.underlying3
 a3:=Tryz.isAgg3
 z3:=Tryz.sizeOf3
 v3:=Tryz.zeroValue3
 t4:=Tryz.underlying4
 a4:=Tryz.isAgg4
 z4:=Tryz.sizeOf4
 v4:=Tryz.zeroValue4
 t5:=Tryz.underlying5
 a5:=Tryz.isAgg5
 z5:=Tryz.sizeOf5
 v5:=Tryz.zeroValue5
 t9:=Tryz.underlying9
 a9:=Tryz.isAgg9
 z9:=Tryz.sizeOf9
 v9:=Tryz.zeroValue9
 t20:=Tryz.underlying20
 a20:=Tryz.isAgg20
 z20:=Tryz.sizeOf20
 v20:=Tryz.zeroValue20
 t37:=Tryz.underlying64
 a37:=Tryz.isAgg64
 z37:=Tryz.sizeOf64
 v37:=Tryz.zeroValue64
 t46:=Tryz.underlying115
 a46:=Tryz.isAgg115
 z46:=Tryz.sizeOf115
 v46:=Tryz.zeroValue115
 t51:=Tryz.underlying124
 a51:=Tryz.isAgg124
 z51:=Tryz.sizeOf124
 v51:=Tryz.zeroValue124
 t53:=Tryz.underlying127
 a53:=Tryz.isAgg127
 z53:=Tryz.sizeOf127
 v53:=Tryz.zeroValue127
 t70:=Tryz.underlying63
 a70:=Tryz.isAgg63
 z70:=Tryz.sizeOf63
 v70:=Tryz.zeroValue63
 t72:=Tryz.underlying66
 a72:=Tryz.isAgg66
 z72:=Tryz.sizeOf66
 v72:=Tryz.zeroValue66
 t75:=Tryz.underlying68
 a75:=Tryz.isAgg68
 z75:=Tryz.sizeOf68
 v75:=Tryz.zeroValue68
 t76:=Tryz.underlying69
 a76:=Tryz.isAgg69
 z76:=Tryz.sizeOf69
 v76:=Tryz.zeroValue69
 t109:=Tryz.underlying116
 a109:=Tryz.isAgg116
 z109:=Tryz.sizeOf116
 v109:=Tryz.zeroValue116
 t127:=Tryz.underlying94
 a127:=Tryz.isAgg94
 z127:=Tryz.sizeOf94
 v127:=Tryz.zeroValue94
 t146:=Tryz.underlying125
 a146:=Tryz.isAgg125
 z146:=Tryz.sizeOf125
 v146:=Tryz.zeroValue125
 t148:=Tryz.underlying128
 a148:=Tryz.isAgg128
 z148:=Tryz.sizeOf128
 v148:=Tryz.zeroValue128
 t164:=Tryz.underlying113
 a164:=Tryz.isAgg113
 z164:=Tryz.sizeOf113
 v164:=Tryz.zeroValue113}
theorem Tryz.Builder_Extra_105:Builder.Extra Tryz.prog Tryz.lays105_ren:={
 sizeBuilder:=by kernel_rfl
 liesBuilder:=by kernel_rfl
 t5:=Tryz.underlying5
 a5:=Tryz.isAgg5
 z5:=Tryz.sizeOf5
 v5:=Tryz.zeroValue5
 infoByte:=by kernel_rfl
 cellsByte:=by kernel_rfl
 sizeByte:=by kernel_rfl
 neB5:=by decide}
def Tryz.lays156_ren:Go.Shelf.Ren:=⟨λ|156=>36|165=>62|166=>19|169=>23|240=>35|241=>73|276=>61|277=>82|n=>n,λ|31=>40|9=>9|3=>3|4=>4|0=>0|20=>20|72=>66|76=>69|70=>63|37=>64|75=>68|127=>94|164=>113|5=>5|80=>31|n=>n,λ|n=>n⟩
theorem Tryz.lays156:Go.Proofs.Lays.n156 Tryz.prog Tryz.lays156_ren:={
 mixed:=by kernel_rfl
 f156:=Tryz.func36.trans (congrArg some (by kernel_rfl))
 f165:=Tryz.func62.trans (congrArg some (by kernel_rfl))
 f166:=Tryz.func19.trans (congrArg some (by kernel_rfl))
 f169:=Tryz.func23.trans (congrArg some (by kernel_rfl))
 f240:=Tryz.func35.trans (congrArg some (by kernel_rfl))
 f241:=Tryz.func73.trans (congrArg some (by kernel_rfl))
 f276:=Tryz.func61.trans (congrArg some (by kernel_rfl))
 f277:=Tryz.func82.trans (congrArg some (by kernel_rfl))
 t0:=Tryz.underlying0
 a0:=Tryz.isAgg0
 z0:=Tryz.sizeOf0
 v0:=Tryz.zeroValue0
 t3:=Tryz.underlying3
 a3:=Tryz.isAgg3
 z3:=Tryz.sizeOf3
 v3:=Tryz.zeroValue3
 t4:=Tryz.underlying4
 a4:=Tryz.isAgg4
 z4:=Tryz.sizeOf4
 v4:=Tryz.zeroValue4
 t9:=Tryz.underlying9
 a9:=Tryz.isAgg9
 z9:=Tryz.sizeOf9
 v9:=Tryz.zeroValue9
 t20:=Tryz.underlying20
 a20:=Tryz.isAgg20
 z20:=Tryz.sizeOf20
 v20:=Tryz.zeroValue20
 t31:=Tryz.underlying40
 a31:=Tryz.isAgg40
 z31:=Tryz.sizeOf40
 v31:=Tryz.zeroValue40
 t37:=Tryz.underlying64
 a37:=Tryz.isAgg64
 z37:=Tryz.sizeOf64
 v37:=Tryz.zeroValue64
 t70:=Tryz.underlying63
 a70:=Tryz.isAgg63
 z70:=Tryz.sizeOf63
 v70:=Tryz.zeroValue63
 t72:=Tryz.underlying66
 a72:=Tryz.isAgg66
 z72:=Tryz.sizeOf66
 v72:=Tryz.zeroValue66
 t75:=Tryz.underlying68
 a75:=Tryz.isAgg68
 z75:=Tryz.sizeOf68
 v75:=Tryz.zeroValue68
 t76:=Tryz.underlying69
 a76:=Tryz.isAgg69
 z76:=Tryz.sizeOf69
 v76:=Tryz.zeroValue69
 t127:=Tryz.underlying94
 a127:=Tryz.isAgg94
 z127:=Tryz.sizeOf94
 v127:=Tryz.zeroValue94
 t164:=Tryz.underlying113
 a164:=Tryz.isAgg113
 z164:=Tryz.sizeOf113
 v164:=Tryz.zeroValue113}
theorem Tryz.Builder_Extra_156:Builder.Extra Tryz.prog Tryz.lays156_ren:={
 sizeBuilder:=by kernel_rfl
 liesBuilder:=by kernel_rfl
 t5:=Tryz.underlying5
 a5:=Tryz.isAgg5
 z5:=Tryz.sizeOf5
 v5:=Tryz.zeroValue5
 infoByte:=by kernel_rfl
 cellsByte:=by kernel_rfl
 sizeByte:=by kernel_rfl
 neB5:=by decide}
end Go.Proofs
namespace Go.PQ
open Go.Eng Go.Proofs Go.Shelf
set_option maxRecDepth 100000
theorem WJ:vP Tryz.prog 19 (.ANQ 66 5):=Go.Eng.AOt (P:=Tryz.prog) (r:=Tryz.lays156_ren) ⟨Tryz.f19,Tryz.func19,by kernel_rfl,by kernel_rfl⟩ {Tryz.lays156 with} Tryz.Builder_Extra_156
theorem Z8:vP Tryz.prog 23 (.ALH 66 5):=Go.Eng.AQH (P:=Tryz.prog) (r:=Tryz.lays156_ren) ⟨Tryz.f23,Tryz.func23,by kernel_rfl,by kernel_rfl⟩ {Tryz.lays156 with} Tryz.Builder_Extra_156
theorem ABQ:vP Tryz.prog 36 .join:=Go.Eng.nat_join (P:=Tryz.prog) (r:=Tryz.lays156_ren) ⟨Tryz.f36,Tryz.func36,by kernel_rfl,by kernel_rfl⟩ Tryz.lays156 Tryz.Builder_Extra_156
theorem wK:vP Tryz.prog 38 .rep:=Go.Eng.AR8 (P:=Tryz.prog) (r:=Tryz.lays105_ren) ⟨Tryz.f38,Tryz.func38,by kernel_rfl,by kernel_rfl⟩ Tryz.lays105 Tryz.Builder_Extra_105
end Go.PQ
namespace Go.PQ
open Go.Eng
set_option maxRecDepth 100000
abbrev Fg(n:Nat)(a:AF):Prop:=yV Go.Proofs.Tryz.prog F n a
theorem ok1{n:Nat}{a:AF}{fn:Func}{loc:Nat->Bool}{df:Bool}{ords:AJC}{dg:Nat}(hf:Go.Proofs.Tryz.prog.funcs[n]? =some fn)(ht:trF Go.Proofs.Tryz.prog loc df ords dg fn=some a)(hn:(fn.name== "runtime.NumGoroutine")=false:=by kernel_rfl)(hd:a.dg=dg:=by kernel_rfl)(hi:AKP a.dp=true:=by kernel_rfl):Fg n a:=.one hf hn ht hd hi
theorem Zq:Fg 4 JM:=ok1 Proofs.Tryz.func4 dZ
theorem uw:Fg 5 Qu:=ok1 Proofs.Tryz.func5 AAm
theorem iG:Fg 6 LY:=ok1 Proofs.Tryz.func6 nN
theorem oz:Fg 7 Py:=ok1 Proofs.Tryz.func7 xO
theorem vC:Fg 8 Qq:=ok1 Proofs.Tryz.func8 zI
theorem ABb:Fg 9 VZ:=ok1 Proofs.Tryz.func9 AEo
theorem uf:Fg 10 Q7:=ok1 Proofs.Tryz.func10 zZ
theorem AGF:Fg 11 jT:=ok1 Proofs.Tryz.func11 AKg
theorem wW:Fg 12 TM:=ok1 Proofs.Tryz.func12 AB2
theorem gY:Fg 13 Lc:=ok1 Proofs.Tryz.func13 oL
theorem sU:Fg 14 P7:=ok1 Proofs.Tryz.func14 xX
theorem jy:Fg 15 NG:=ok1 Proofs.Tryz.func15 ql
theorem sK:Fg 16 PG:=ok1 Proofs.Tryz.func16 yT
theorem xI:Fg 17 SN:=ok1 Proofs.Tryz.func17 AAy
theorem qy:Fg 18 PI:=ok1 Proofs.Tryz.func18 xP
theorem V7:Fg 19 JE:=.nat _ rfl WJ
theorem xJ:Fg 20 SS:=ok1 Proofs.Tryz.func20 ABP
theorem uF:Fg 21 PD:=ok1 Proofs.Tryz.func21 yE
theorem AEx:Fg 22 Zc:=ok1 Proofs.Tryz.func22 AGa
theorem Zh:Fg 23 MC:=.nat _ rfl Z8
theorem gq:Fg 24 Lj:=ok1 Proofs.Tryz.func24 nK
theorem qp:Fg 25 Po:=ok1 Proofs.Tryz.func25 yN
theorem VW:Fg 26 Fa:=ok1 Proofs.Tryz.func26 WL
theorem IB:Fg 27 Bg:=ok1 Proofs.Tryz.func27 IY
theorem qw:Fg 28 Pm:=ok1 Proofs.Tryz.func28 yj
theorem uZ:Fg 29 Q8:=ok1 Proofs.Tryz.func29 AAQ
theorem uo:Fg 30 Qr:=ok1 Proofs.Tryz.func30 AAZ
theorem yP:Fg 31 Sl:=ok1 Proofs.Tryz.func31 AB4
theorem lG:Fg 32 NY:=ok1 Proofs.Tryz.func32 pz
theorem tq:Fg 33 Ph:=ok1 Proofs.Tryz.func33 xY
theorem AHv:Fg 34 uS:=ok1 Proofs.Tryz.func34 ANp
theorem AAF:Fg 36 Ym:=.nat _ rfl ABQ
theorem xw:Fg 37 S9:=ok1 Proofs.Tryz.func37 AA3
theorem uq:Fg 38 Vk:=.nat _ rfl wK
theorem kL:Fg 39 Mc:=ok1 Proofs.Tryz.func39 sF
theorem jZ:Fg 40 MS:=ok1 Proofs.Tryz.func40 og
theorem jm:Fg 41 NC:=ok1 Proofs.Tryz.func41 sH
theorem nU:Fg 42 OW:=ok1 Proofs.Tryz.func42 uX
theorem lI:Fg 43 MQ:=ok1 Proofs.Tryz.func43 rX
theorem qN:Fg 44 Pn:=ok1 Proofs.Tryz.func44 yA
theorem gB:Fg 45 KW:=ok1 Proofs.Tryz.func45 lT
theorem je:Fg 46 NV:=ok1 Proofs.Tryz.func46 rG
theorem JR:Fg 47 CW:=ok1 Proofs.Tryz.func47 Js
theorem wR:Fg 48 TN:=ok1 Proofs.Tryz.func48 ABv
theorem vG:Fg 49 Qs:=ok1 Proofs.Tryz.func49 AAt
theorem jQ:Fg 50 MR:=ok1 Proofs.Tryz.func50 tZ
theorem lU:Fg 51 NH:=ok1 Proofs.Tryz.func51 qY
theorem AD9:Fg 52 ZT:=ok1 Proofs.Tryz.func52 AGy
theorem yH:Fg 53 TR:=ok1 Proofs.Tryz.func53 ABf
theorem AEE:Fg 54 Zj:=ok1 Proofs.Tryz.func54 AGu
theorem ADl:Fg 55 Zg:=ok1 Proofs.Tryz.func55 AGx
theorem AEj:Fg 56 ZQ:=ok1 Proofs.Tryz.func56 AHZ
theorem ADz:Fg 57 ZU:=ok1 Proofs.Tryz.func57 AHP
theorem ACy:Fg 58 Xr:=ok1 Proofs.Tryz.func58 AE4
theorem jw:Fg 59 Md:=ok1 Proofs.Tryz.func59 qh
theorem wU:Fg 60 TD:=ok1 Proofs.Tryz.func60 AAz
theorem yC:Fg 63 Sr:=ok1 Proofs.Tryz.func63 ABa
theorem lJ:Fg 66 NM:=ok1 Proofs.Tryz.func66 tH
theorem jV:Fg 67 MZ:=ok1 Proofs.Tryz.func67 sN
theorem gJ:Fg 68 LW:=.two Proofs.Tryz.func68 (by kernel_rfl) oD (by kernel_rfl) Eu (by kernel_rfl)
theorem JQ:Fg 69 CV:=ok1 Proofs.Tryz.func69 Jw
theorem wS:Fg 70 TJ:=ok1 Proofs.Tryz.func70 ABy
theorem UY:Fg 71 FB:=ok1 Proofs.Tryz.func71 VX
theorem Ub:Fg 72 FH:=ok1 Proofs.Tryz.func72 VQ
theorem xU:Fg 74 Sm:=ok1 Proofs.Tryz.func74 ABK
theorem AGh:Fg 77 jS:=ok1 Proofs.Tryz.func77 ALY
theorem AFJ:Fg 78 dI:=ok1 Proofs.Tryz.func78 AJS
theorem lN:Fg 79 MJ:=ok1 Proofs.Tryz.func79 oW
theorem jr:Fg 80 Na:=ok1 Proofs.Tryz.func80 qC
theorem jH:Fg 83 MP:=ok1 Proofs.Tryz.func83 qj
theorem AAo:Fg 84 Uh:=ok1 Proofs.Tryz.func84 ACv
theorem AFH:Fg 85 dP:=ok1 Proofs.Tryz.func85 AID
theorem xQ:Fg 86 TQ:=ok1 Proofs.Tryz.func86 ABJ
theorem fA:Fg 87 Kt:=ok1 Proofs.Tryz.func87 jc
theorem jG:Fg 88 Nh:=.two Proofs.Tryz.func88 (by kernel_rfl) oV (by kernel_rfl) Eu (by kernel_rfl)
theorem fB:Fg 89 Ko:=.two Proofs.Tryz.func89 (by kernel_rfl) kH (by kernel_rfl) Eu (by kernel_rfl)
theorem iM:Fg 90 LX:=ok1 Proofs.Tryz.func90 nO
theorem WT:Fg 91 Gg:=ok1 Proofs.Tryz.func91 YV
theorem fZ:Fg 92 KZ:=ok1 Proofs.Tryz.func92 lH
theorem fG:Fg 93 KT:=ok1 Proofs.Tryz.func93 kN
theorem Zv:Fg 94 JX:=ok1 Proofs.Tryz.func94 dh
theorem Zb:Fg 95 I5:=ok1 Proofs.Tryz.func95 ak
theorem WS:Fg 96 Gf:=ok1 Proofs.Tryz.func96 Xv
theorem U4:Fg 97 FT:=ok1 Proofs.Tryz.func97 Vo
theorem V8:Fg 98 JF:=ok1 Proofs.Tryz.func98 Xd
theorem Yh:Fg 99 Ii:=ok1 Proofs.Tryz.func99 aK
theorem iU:Fg 100 LU:=ok1 Proofs.Tryz.func100 nV
theorem W9:Fg 101 G7:=ok1 Proofs.Tryz.func101 Yd
theorem iO:Fg 102 Ll:=.two Proofs.Tryz.func102 (by kernel_rfl) nP (by kernel_rfl) Eu (by kernel_rfl)
theorem WU:Fg 103 GU:=ok1 Proofs.Tryz.func103 YI
theorem pW:Fg 104 PS:=ok1 Proofs.Tryz.func104 xk
theorem WM:Fg 105 GX:=ok1 Proofs.Tryz.func105 YJ
theorem Uz:Fg 106 Ig:=ok1 Proofs.Tryz.func106 Vy
theorem Yr:Fg 107 Ky:=ok1 Proofs.Tryz.func107 Zu
theorem iL:Fg 108 LQ:=ok1 Proofs.Tryz.func108 ng
theorem Xi:Fg 109 KD:=ok1 Proofs.Tryz.func109 Yl
theorem XQ:Fg 110 KF:=ok1 Proofs.Tryz.func110 Yz
theorem jE:Fg 111 NZ:=ok1 Proofs.Tryz.func111 uD
theorem fE:Fg 112 Kr:=ok1 Proofs.Tryz.func112 kF
theorem jW:Fg 113 NQ:=ok1 Proofs.Tryz.func113 rC
theorem vF:Fg 114 Qv:=ok1 Proofs.Tryz.func114 zA
theorem all_good:T.All (λp af=>yV Go.Proofs.Tryz.prog F p.key af) F:=(.n0 (.n0 (.n0 (.n1 oz (.n1 jy (.n1 yP (.n1 yC .e .e) (.n1 Zb .e .e)) (.n1 JR (.n1 lN .e .e) (.n1 jE .e .e))) (.n1 Zh (.n1 kL (.n1 UY .e .e) (.n1 WU .e .e)) (.n1 ADl (.n1 fA .e .e) .e))) (.n1 AGF (.n1 V7 (.n0 (.n1 jV .e .e) (.n1 Yh .e .e)) (.n1 lU (.n1 jH .e .e) .e)) (.n1 IB (.n1 lI .e (.n1 Yr .e .e)) (.n1 jw (.n1 WT .e .e) .e)))) (.n1 uw (.n1 ABb (.n1 xI (.n1 tq .e (.n1 U4 .e .e)) (.n1 vG .e (.n1 jW .e .e))) (.n1 qp (.n1 jm .e (.n1 WM .e .e)) (.n1 ADz (.n1 fB .e .e) .e))) (.n1 gY (.n1 uF (.n1 xw (.n1 JQ .e .e) (.n1 W9 .e .e)) (.n1 yH (.n1 AFH .e .e) .e)) (.n1 uZ (.n1 gB (.n1 AGh .e .e) (.n1 Xi .e .e)) (.n0 (.n1 fG .e .e) .e))))) (.n0 (.n1 Zq (.n1 vC (.n1 sK (.n1 lG .e (.n1 WS .e .e)) (.n1 wR (.n1 jr .e .e) (.n1 fE .e .e))) (.n1 gq (.n1 jZ (.n1 Ub .e .e) (.n1 pW .e .e)) (.n1 AEj (.n1 jG .e .e) .e))) (.n1 wW (.n1 xJ (.n1 AAF (.n1 gJ .e .e) (.n1 iU .e .e)) (.n1 AD9 (.n1 AAo .e .e) .e)) (.n1 qw (.n1 qN .e (.n1 iL .e .e)) (.n1 wU (.n1 fZ .e .e) .e)))) (.n1 iG (.n1 uf (.n1 qy (.n1 AHv (.n1 lJ .e .e) (.n1 V8 .e .e)) (.n1 jQ .e (.n1 vF .e .e))) (.n1 VW (.n1 nU (.n1 xU .e .e) (.n1 Uz .e .e)) (.n1 ACy (.n1 iM .e .e) .e))) (.n1 sU (.n1 AEx (.n1 uq (.n1 wS .e .e) (.n1 iO .e .e)) (.n1 AEE (.n1 xQ .e .e) .e)) (.n1 uo (.n1 je (.n1 AFJ .e .e) (.n1 XQ .e .e)) (.n0 (.n1 Zv .e .e) .e))))))
theorem AWz:AF3 Go.Proofs.Tryz.prog F:=.AXI (by kernel_rfl) all_good
end Go.PQ
