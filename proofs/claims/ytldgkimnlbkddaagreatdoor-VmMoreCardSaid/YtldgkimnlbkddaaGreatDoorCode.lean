/- Part of a proof; nothing is assumed. -/
import Derived.Test.YtldgkimnlbkddaaGreatDoorEngA
import Derived.Test.YtldgkimnlbkddaaGreatDoorEngF
import Derived.Test.YtldgkimnlbkddaaGreatDoorProg
set_option linter.unusedVariables false
set_option linter.unusedSimpArgs false
noncomputable section
namespace Go.RL
open Go.Bf
set_option maxRecDepth 100000
abbrev tr(l:List (Nat×Nat))(d:Bool)(o:APj)(g:Nat)(f:Func):Option AF:=trF Go.Proofs.Tryz.prog (inR l) d o g f
abbrev dO:=tr [(28,28),(30,31),(33,44),(46,59),(64,67),(72,73),(88,89),(94,95),(102,107),(109,146),(148,149),(153,153),(165,174),(176,177)] false [(16,Dp 15),(21,[(0,.plain),(1,.plain),(2,.plain),(3,.plain),(4,.plain),(5,.plain),(6,.wr)]),(32,Dp 11)] 0 Proofs.Tryz.f3
def MN:=Ae dO
theorem ACY:dO=some MN:=AV (by kernel_rfl)
abbrev nV:=tr [(5,5),(9,15),(17,24),(26,57)] false [] 0 Proofs.Tryz.f4
def WY:=Ae nV
theorem AFF:nV=some WY:=AV (by kernel_rfl)
abbrev uZ:=tr [(9,12),(14,17)] false [] 0 Proofs.Tryz.f5
def SX:=Ae uZ
theorem AGi:uZ=some SX:=AV (by kernel_rfl)
abbrev AIl:=tr [(13,14),(16,18),(23,24),(37,39),(41,41),(62,72),(77,78),(87,87),(89,93),(95,96)] false [(8,Dp 14),(13,Dp 9),(14,Dp 13),(21,Dp 9)] 0 Proofs.Tryz.f6
def bT:=Ae AIl
theorem AOK:AIl=some bT:=AV (by kernel_rfl)
abbrev zC:=tr [(6,6),(11,11),(16,25),(30,32),(43,45),(47,54)] false [(8,Dp 11)] 0 Proofs.Tryz.f7
def Ua:=Ae zC
theorem AI0:zC=some Ua:=AV (by kernel_rfl)
abbrev dV:=tr [(7,13)] false [] 0 Proofs.Tryz.f8
def L8:=Ae dV
theorem AB9:dV=some L8:=AV (by kernel_rfl)
abbrev AMR:=tr [(1,1)] false [] 0 Proofs.Tryz.f9
def uM:=Ae AMR
theorem AS6:AMR=some uM:=AV (by kernel_rfl)
abbrev ARQ:=tr [(12,12),(20,30),(32,34),(45,45),(47,57),(62,77),(79,83),(85,89)] false [(4,Dp 10),(20,Dp 11),(21,Dp 9)] 0 Proofs.Tryz.f10
def AA9:=Ae ARQ
theorem AVv:ARQ=some AA9:=AV (by kernel_rfl)
abbrev jf:=tr [(3,12)] false [] 0 Proofs.Tryz.f11
def OC:=Ae jf
theorem ADL:jf=some OC:=AV (by kernel_rfl)
abbrev dH:=tr [(5,23)] false [] 0 Proofs.Tryz.f12
def MK:=Ae dH
theorem ABS:dH=some MK:=AV (by kernel_rfl)
abbrev qM:=tr [(16,16),(21,29),(31,38),(43,52),(54,60)] false [] 0 Proofs.Tryz.f13
def Wp:=Ae qM
theorem AGO:qM=some Wp:=AV (by kernel_rfl)
abbrev jr:=tr [(11,17),(19,33)] false [] 0 Proofs.Tryz.f14
def VA:=Ae jr
theorem AEM:jr=some VA:=AV (by kernel_rfl)
abbrev vS:=tr [(13,56),(58,59),(64,67),(69,71),(76,80),(82,84),(89,104),(106,108),(113,125),(127,128),(133,137),(139,139)] false [] 0 Proofs.Tryz.f15
def SN:=Ae vS
theorem AHk:vS=some SN:=AV (by kernel_rfl)
abbrev gZ:=tr [(9,27),(29,29),(34,47),(49,80),(82,82),(87,88),(95,96)] false [(15,Dp 6)] 0 Proofs.Tryz.f16
def MO:=Ae gZ
theorem ABy:gZ=some MO:=AV (by kernel_rfl)
abbrev AJ2:=tr [(6,9),(14,15),(23,24)] false [(5,Dp 8)] 0 Proofs.Tryz.f17
def je:=Ae AJ2
theorem AQj:AJ2=some je:=AV (by kernel_rfl)
abbrev fV:=tr [(10,10),(13,14),(18,18),(21,31),(33,49),(51,59),(61,62),(64,66),(71,77),(79,88),(90,91),(96,105),(107,127),(129,129)] false [] 0 Proofs.Tryz.f18
def MJ:=Ae fV
theorem AB6:fV=some MJ:=AV (by kernel_rfl)
abbrev kK:=tr [(14,14),(16,16),(21,22),(32,32),(41,41),(46,47),(62,69),(71,72),(77,85),(87,87)] false [(4,Dp 9),(7,Dp 8),(12,opp [0,1,2,3,4,5,6,7,8,14,9,10,11,12,13,15,16,17])] 0 Proofs.Tryz.f19
def Ny:=Ae kK
theorem ADU:kK=some Ny:=AV (by kernel_rfl)
abbrev iC:=tr [(3,3),(5,9)] false [] 0 Proofs.Tryz.f20
def L9:=Ae iC
theorem ABO:iC=some L9:=AV (by kernel_rfl)
abbrev jg:=tr [(8,8),(10,21)] false [] 0 Proofs.Tryz.f21
def Ov:=Ae jg
theorem ADc:jg=some Ov:=AV (by kernel_rfl)
abbrev ZA:=tr [(8,19),(41,58),(86,106),(108,123),(125,140),(142,146)] false [(4,Dp 11),(6,Dp 10),(10,Dp 13),(11,Dp 15)] 0 Proofs.Tryz.f22
def J4:=Ae ZA
theorem xJ:ZA=some J4:=AV (by kernel_rfl)
abbrev aV:=tr [(12,12),(16,16),(19,24),(29,48),(52,53)] false [(8,Dp 5)] 0 Proofs.Tryz.f23
def Kv:=Ae aV
theorem AAh:aV=some Kv:=AV (by kernel_rfl)
abbrev IK:=tr [(5,8)] false [] 0 Proofs.Tryz.f24
def DJ:=Ae IK
theorem Ph:IK=some DJ:=AV (by kernel_rfl)
abbrev AJf:=tr [] false [(1,Dp 4)] 0 Proofs.Tryz.f25
def jD:=Ae AJf
theorem ARg:AJf=some jD:=AV (by kernel_rfl)
abbrev dY:=tr [(9,9),(22,30),(44,55),(68,75)] false [(1,Dp 11),(3,opp [0,1,2,3,4,5,6,7,12,8,9,10,11,13,14]),(6,Dp 12),(10,Dp 14)] 0 Proofs.Tryz.f26
def ML:=Ae dY
theorem ACc:dY=some ML:=AV (by kernel_rfl)
abbrev qO:=tr [(6,10),(12,21),(23,36),(38,41),(53,55),(67,75),(77,85),(100,104),(112,112)] false [(8,Dp 11),(10,Dp 13),(15,Dp 15),(17,opp [0,1,3,4,2,5])] 0 Proofs.Tryz.f27
def Qb:=Ae qO
theorem AFI:qO=some Qb:=AV (by kernel_rfl)
abbrev Q8:=tr [(6,9),(11,11),(15,15),(25,25)] false [(6,Dp 9)] 0 Proofs.Tryz.f28
def GI:=Ae Q8
theorem bP:Q8=some GI:=AV (by kernel_rfl)
abbrev AC2:=tr [(8,14),(18,24),(31,32)] false [(3,Dp 4),(7,Dp 7)] 0 Proofs.Tryz.f29
def fC:=Ae AC2
theorem AKx:AC2=some fC:=AV (by kernel_rfl)
abbrev jc:=tr [(6,6),(11,20)] false [] 0 Proofs.Tryz.f30
def U0:=Ae jc
theorem AEI:jc=some U0:=AV (by kernel_rfl)
abbrev ACy:=tr [(12,18),(32,36),(43,51),(56,58),(66,71),(78,79)] false [(2,Dp 9),(3,Dp 6),(6,Dp 7),(12,Dp 8),(15,Dp 7)] 0 Proofs.Tryz.f31
def fB:=Ae ACy
theorem ALR:ACy=some fB:=AV (by kernel_rfl)
abbrev jM:=tr [(11,11),(16,24),(26,31)] false [] 0 Proofs.Tryz.f32
def Ux:=Ae jM
theorem AER:jM=some Ux:=AV (by kernel_rfl)
abbrev vO:=tr [(9,29),(31,31),(36,47),(49,50),(55,72),(74,74),(79,83),(85,86)] false [] 0 Proofs.Tryz.f33
def SQ:=Ae vO
theorem AHG:vO=some SQ:=AV (by kernel_rfl)
abbrev iy:=tr [(8,47),(49,49),(54,70),(72,75),(80,107),(109,111)] false [] 0 Proofs.Tryz.f34
def OY:=Ae iy
theorem AEF:iy=some OY:=AV (by kernel_rfl)
abbrev fK:=tr [(13,27),(32,34),(36,37),(42,45),(47,48),(53,56),(58,59),(64,88),(90,91),(96,106),(108,108)] false [] 0 Proofs.Tryz.f35
def Lu:=Ae fK
theorem ACT:fK=some Lu:=AV (by kernel_rfl)
abbrev qL:=tr [(6,8),(10,13),(15,17)] false [(6,Dp 12)] 0 Proofs.Tryz.f36
def Qg:=Ae qL
theorem AGJ:qL=some Qg:=AV (by kernel_rfl)
abbrev jF:=tr [(5,5)] false [] 0 Proofs.Tryz.f37
def OA:=Ae jF
theorem AC4:jF=some OA:=AV (by kernel_rfl)
abbrev jo:=tr [(8,8),(10,26)] false [] 0 Proofs.Tryz.f38
def Oo:=Ae jo
theorem AEE:jo=some Oo:=AV (by kernel_rfl)
abbrev fJ:=tr [(9,9),(11,22),(24,24),(31,31)] false [(6,[(0,.plain),(1,.plain),(2,.plain),(4,.plain),(5,.plain),(3,.plain),(6,.wr),(7,.wr)])] 0 Proofs.Tryz.f39
def MP:=Ae fJ
theorem ACF:fJ=some MP:=AV (by kernel_rfl)
abbrev Ll:=tr [(5,8)] false [] 0 Proofs.Tryz.f40
def EO:=Ae Ll
theorem XQ:Ll=some EO:=AV (by kernel_rfl)
abbrev AFN:=tr [(5,6),(10,10),(29,31),(35,35),(54,54)] false [(4,Dp 18),(10,Dp 18)] 0 Proofs.Tryz.f41
def YV:=Ae AFN
theorem ALy:AFN=some YV:=AV (by kernel_rfl)
abbrev dW:=tr [(7,7),(13,16),(18,20),(22,29),(31,31)] false [] 0 Proofs.Tryz.f42
def MH:=Ae dW
theorem ACe:dW=some MH:=AV (by kernel_rfl)
abbrev dS:=tr [(10,10),(14,14),(17,22),(27,40),(44,45)] false [(8,Dp 5)] 0 Proofs.Tryz.f43
def MG:=Ae dS
theorem ABt:dS=some MG:=AV (by kernel_rfl)
abbrev vV:=tr [(5,30)] false [] 0 Proofs.Tryz.f44
def Si:=Ae vV
theorem AHj:vV=some Si:=AV (by kernel_rfl)
abbrev AQL:=tr [(3,4)] false [] 0 Proofs.Tryz.f45
def AA0:=Ae AQL
theorem AV1:AQL=some AA0:=AV (by kernel_rfl)
abbrev kU:=tr [(11,11),(28,52),(54,55)] false [(1,Dp 12)] 0 Proofs.Tryz.f46
def OO:=Ae kU
theorem ADV:kU=some OO:=AV (by kernel_rfl)
abbrev Xv:=tr [(18,24),(26,33),(35,36),(62,62),(67,69),(86,86),(107,108),(113,115),(151,151),(153,162)] false [(6,Dp 18),(8,Dp 9),(14,opp [0,1,2,3,4,5,6,7,8,9,10,11,16,12,13,14,15,17,18]),(17,[(0,.plain),(1,.plain),(2,.plain),(3,.plain),(4,.plain),(5,.plain),(6,.plain),(7,.plain),(8,.plain),(9,.plain),(10,.plain),(11,.plain),(12,.wr)]),(18,Dp 8),(23,opp [0,1,2,3,4,5,6,7,8,9,10,11,16,12,13,14,15,17,18]),(24,[(0,.plain),(1,.plain),(2,.plain),(3,.plain),(4,.plain),(5,.plain),(6,.plain),(7,.plain),(8,.plain),(9,.plain),(10,.plain),(11,.plain),(12,.wr)]),(25,Dp 8)] 0 Proofs.Tryz.f47
def JY:=Ae Xv
theorem sN:Xv=some JY:=AV (by kernel_rfl)
abbrev Y0:=tr [] false [(1,opp [0,1,3,4,2,5,6,7])] 0 Proofs.Tryz.f48
def Jz:=Ae Y0
theorem wO:Y0=some Jz:=AV (by kernel_rfl)
abbrev Xz:=tr [(12,12),(15,15),(17,19),(22,26),(28,32),(34,38),(40,40),(65,70),(79,79),(81,97),(99,112),(114,125),(127,138),(140,186),(188,193),(195,200),(202,208),(210,219),(221,225)] false [(10,Dp 24),(13,Dp 9)] 0 Proofs.Tryz.f49
def JM:=Ae Xz
theorem sV:Xz=some JM:=AV (by kernel_rfl)
abbrev WE:=tr [(7,13),(15,16)] false [] 0 Proofs.Tryz.f50
def Io:=Ae WE
theorem nR:WE=some Io:=AV (by kernel_rfl)
abbrev zx:=tr [(3,8)] false [] 0 Proofs.Tryz.f51
def Ue:=Ae zx
theorem AIt:zx=some Ue:=AV (by kernel_rfl)
abbrev iD:=tr [(8,8),(13,17),(19,21)] false [] 0 Proofs.Tryz.f52
def MF:=Ae iD
theorem ABr:iD=some MF:=AV (by kernel_rfl)
abbrev JD:=tr [(6,6),(10,15),(17,18)] false [] 0 Proofs.Tryz.f53
def Dh:=Ae JD
theorem SA:JD=some Dh:=AV (by kernel_rfl)
abbrev jh:=tr [(9,9),(12,19),(24,29),(31,37)] false [] 0 Proofs.Tryz.f54
def Om:=Ae jh
theorem ADk:jh=some Om:=AV (by kernel_rfl)
abbrev jk:=tr [(4,7)] false [] 0 Proofs.Tryz.f55
def OM:=Ae jk
theorem ADP:jk=some OM:=AV (by kernel_rfl)
abbrev nX:=tr [] false [(1,Dp 12)] 0 Proofs.Tryz.f56
def QZ:=Ae nX
theorem AFx:nX=some QZ:=AV (by kernel_rfl)
abbrev jZ:=tr [(6,6),(8,11),(13,13),(30,37),(39,44),(46,46),(60,60),(74,79),(81,87),(89,93),(95,95),(112,115),(117,129),(131,143),(145,153)] false [(4,Dp 15),(10,Dp 12),(12,Dp 13),(19,Dp 16),(35,Dp 8)] 0 Proofs.Tryz.f57
def OW:=Ae jZ
theorem AEP:jZ=some OW:=AV (by kernel_rfl)
abbrev oM:=tr [(9,14),(16,44)] false [] 0 Proofs.Tryz.f58
def Ql:=Ae oM
theorem AFf:oM=some Ql:=AV (by kernel_rfl)
abbrev jA:=tr [(6,14)] false [(1,Dp 21)] 0 Proofs.Tryz.f59
def OZ:=Ae jA
theorem AEp:jA=some OZ:=AV (by kernel_rfl)
abbrev AMu:=tr [(8,13),(20,27),(35,40),(42,43)] false [(3,Dp 7),(8,Dp 8)] 0 Proofs.Tryz.f60
def AET:=Ae AMu
theorem ATA:AMu=some AET:=AV (by kernel_rfl)
abbrev Yd:=tr [(5,19),(21,32),(34,35),(37,40),(50,57),(59,61),(69,84),(86,88)] false [(11,opp [0,1,2,4,3,5,6,7,8,9]),(15,Dp 8)] 0 Proofs.Tryz.f61
def Pz:=Ae Yd
theorem wF:Yd=some Pz:=AV (by kernel_rfl)
abbrev kT:=tr [(3,8)] false [] 0 Proofs.Tryz.f62
def U9:=Ae kT
theorem AEt:kT=some U9:=AV (by kernel_rfl)
abbrev AMZ:=tr [(14,14),(19,20),(28,30)] false [(1,opp [0,1,2,3,4,5,8,6,7,9]),(5,Dp 8)] 0 Proofs.Tryz.f63
def ADE:=Ae AMZ
theorem ATU:AMZ=some ADE:=AV (by kernel_rfl)
abbrev qI:=tr [(5,30)] false [] 0 Proofs.Tryz.f64
def WH:=Ae qI
theorem AGZ:qI=some WH:=AV (by kernel_rfl)
abbrev I9:=tr [(3,3),(5,7)] false [] 0 Proofs.Tryz.f65
def Em:=Ae I9
theorem SE:I9=some Em:=AV (by kernel_rfl)
abbrev WC:=tr [(7,15),(20,33)] false [] 0 Proofs.Tryz.f66
def NI:=Ae WC
theorem pV:WC=some NI:=AV (by kernel_rfl)
abbrev AIR:=tr [(10,20),(25,26),(41,46),(48,52)] false [(7,Dp 15)] 0 Proofs.Tryz.f67
def uT:=Ae AIR
theorem AOA:AIR=some uT:=AV (by kernel_rfl)
abbrev qP:=tr [(3,22)] false [] 0 Proofs.Tryz.f68
def Qk:=Ae qP
theorem AGa:qP=some Qk:=AV (by kernel_rfl)
abbrev AH5:=tr [(3,22)] false [] 0 Proofs.Tryz.f69
def bK:=Ae AH5
theorem APH:AH5=some bK:=AV (by kernel_rfl)
abbrev aB:=tr [(3,5)] false [] 0 Proofs.Tryz.f70
def LG:=Ae aB
theorem AAk:aB=some LG:=AV (by kernel_rfl)
abbrev ACu:=tr [(3,10)] false [] 0 Proofs.Tryz.f71
def WO:=Ae ACu
theorem AKR:ACu=some WO:=AV (by kernel_rfl)
abbrev AHs:=tr [(3,6)] false [] 0 Proofs.Tryz.f72
def bQ:=Ae AHs
theorem AOa:AHs=some bQ:=AV (by kernel_rfl)
abbrev vK:=tr [(3,8)] false [] 0 Proofs.Tryz.f73
def Sr:=Ae vK
theorem AGe:vK=some Sr:=AV (by kernel_rfl)
abbrev zJ:=tr [(3,4),(6,9)] false [] 0 Proofs.Tryz.f74
def Uc:=Ae zJ
theorem AIq:zJ=some Uc:=AV (by kernel_rfl)
abbrev aU:=tr [(7,11),(13,17),(19,23),(25,29),(31,35),(37,39),(41,44)] false [] 0 Proofs.Tryz.f75
def KO:=Ae aU
theorem AAt:aU=some KO:=AV (by kernel_rfl)
abbrev PU:=tr [(6,6),(10,15),(17,18)] false [] 0 Proofs.Tryz.f76
def FH:=Ae PU
theorem Yc:PU=some FH:=AV (by kernel_rfl)
abbrev jm:=tr [(8,8),(13,17),(19,22)] false [] 0 Proofs.Tryz.f77
def N8:=Ae jm
theorem AEg:jm=some N8:=AV (by kernel_rfl)
abbrev KN:=tr [(6,9),(11,11),(15,15),(25,25)] false [(6,Dp 9)] 0 Proofs.Tryz.f78
def D9:=Ae KN
theorem Vk:KN=some D9:=AV (by kernel_rfl)
abbrev AC0:=tr [(10,13),(22,22),(31,31),(33,38),(48,48),(50,52)] false [(3,Dp 8),(5,Dp 8),(8,Dp 10)] 0 Proofs.Tryz.f79
def WT:=Ae AC0
theorem AKg:AC0=some WT:=AV (by kernel_rfl)
abbrev LK:=tr [(3,3),(5,7)] false [] 0 Proofs.Tryz.f80
def D8:=Ae LK
theorem Ve:LK=some D8:=AV (by kernel_rfl)
abbrev ALJ:=tr [(1,1)] false [] 0 Proofs.Tryz.f81
def ig:=Ae ALJ
theorem ARk:ALJ=some ig:=AV (by kernel_rfl)
abbrev Xk:=tr [] false [(1,Dp 11),(2,Dp 12)] 0 Proofs.Tryz.f82
def Jc:=Ae Xk
theorem uK:Xk=some Jc:=AV (by kernel_rfl)
abbrev ACq:=tr [(1,1)] false [] 0 Proofs.Tryz.f83
def WQ:=Ae ACq
theorem AKe:ACq=some WQ:=AV (by kernel_rfl)
abbrev aC:=tr [(6,12),(14,31)] false [] 0 Proofs.Tryz.f84
def KT:=Ae aC
theorem zB:aC=some KT:=AV (by kernel_rfl)
abbrev Yg:=tr [(9,12),(14,21),(46,54)] false [(5,Dp 24)] 0 Proofs.Tryz.f85
def Jy:=Ae Yg
theorem xE:Yg=some Jy:=AV (by kernel_rfl)
abbrev jW:=tr [] false [(1,Dp 12)] 0 Proofs.Tryz.f86
def Ou:=Ae jW
theorem AEe:jW=some Ou:=AV (by kernel_rfl)
abbrev Vd:=tr [(13,13),(16,16),(32,32),(67,76),(106,106),(117,131),(133,133),(155,156),(167,172),(174,194),(196,205)] false [(3,Dp 15),(5,Dp 34),(11,Dp 12),(12,Dp 17),(14,Dp 12),(17,Dp 12),(18,opp [0,1,2,3,5,6,7,4,8,9,10]),(21,Dp 12)] 0 Proofs.Tryz.f87
def IW:=Ae Vd
theorem lH:Vd=some IW:=AV (by kernel_rfl)
abbrev ANM:=tr [(4,5)] false [] 0 Proofs.Tryz.f88
def qo:=Ae ANM
theorem AS9:ANM=some qo:=AV (by kernel_rfl)
abbrev nC:=tr [(19,26),(28,31),(33,42),(44,52),(54,62),(64,72),(74,82),(84,92),(94,95)] false [(0,Dp 10),(19,Dp 12)] 0 Proofs.Tryz.f89
def Qd:=Ae nC
theorem AFO:nC=some Qd:=AV (by kernel_rfl)
abbrev Zn:=tr [(13,13),(15,18),(20,20),(31,40),(42,51),(53,59),(88,92),(94,102),(104,112),(114,115),(126,131),(133,140),(142,145),(147,160),(162,169),(171,182)] false [(4,Dp 11),(11,Dp 29),(19,Dp 12)] 0 Proofs.Tryz.f90
def Ko:=Ae Zn
theorem AAA:Zn=some Ko:=AV (by kernel_rfl)
abbrev MZ:=tr [(3,3),(5,7)] false [] 0 Proofs.Tryz.f91
def Ea:=Ae MZ
theorem Xd:MZ=some Ea:=AV (by kernel_rfl)
abbrev qJ:=tr [(24,39),(61,61),(73,75)] false [(0,Dp 10),(1,Dp 10),(4,Dp 11),(5,Dp 11),(7,Dp 11)] 0 Proofs.Tryz.f92
def XM:=Ae qJ
theorem AFQ:qJ=some XM:=AV (by kernel_rfl)
abbrev nS:=tr [(9,13),(24,24),(37,37),(49,52),(54,59),(61,68),(70,70),(72,85),(87,87),(89,92),(94,109)] false [(2,Dp 10),(4,Dp 10),(8,Dp 11)] 0 Proofs.Tryz.f93
def Wl:=Ae nS
theorem AGC:nS=some Wl:=AV (by kernel_rfl)
abbrev aQ:=tr [(10,14),(16,18)] false [] 0 Proofs.Tryz.f94
def RJ:=Ae aQ
theorem yP:aQ=some RJ:=AV (by kernel_rfl)
abbrev Zm:=tr [(5,17),(19,23)] false [] 0 Proofs.Tryz.f95
def RN:=Ae Zm
theorem zl:Zm=some RN:=AV (by kernel_rfl)
abbrev Zo:=tr [(5,8),(10,11)] false [] 0 Proofs.Tryz.f96
def Rt:=Ae Zo
theorem zU:Zo=some Rt:=AV (by kernel_rfl)
abbrev fQ:=tr [(4,6),(8,12)] false [] 0 Proofs.Tryz.f97
def TI:=Ae fQ
theorem ABx:fQ=some TI:=AV (by kernel_rfl)
abbrev aH:=tr [(4,4),(6,7)] false [] 0 Proofs.Tryz.f98
def RU:=Ae aH
theorem AAU:aH=some RU:=AV (by kernel_rfl)
abbrev jK:=tr [(11,44),(46,46)] false [] 0 Proofs.Tryz.f99
def Us:=Ae jK
theorem ADz:jK=some Us:=AV (by kernel_rfl)
abbrev Xq:=tr [(6,12),(17,34),(36,38),(40,44),(54,62)] false [(2,opp [0,1,4,2,3,5]),(11,opp [0,1,2,4,3,5,6,7,8,9])] 0 Proofs.Tryz.f100
def O4:=Ae Xq
theorem qx:Xq=some O4:=AV (by kernel_rfl)
abbrev Zv:=tr [(4,8),(10,21)] false [] 0 Proofs.Tryz.f101
def Rq:=Ae Zv
theorem AAL:Zv=some Rq:=AV (by kernel_rfl)
abbrev NR:=tr [(3,3),(5,7)] false [] 0 Proofs.Tryz.f102
def Gw:=Ae NR
theorem Xa:NR=some Gw:=AV (by kernel_rfl)
abbrev ALi:=tr [(6,13),(18,28)] false [] 0 Proofs.Tryz.f103
def AAm:=Ae ALi
theorem ARf:ALi=some AAm:=AV (by kernel_rfl)
abbrev oO:=tr [(2,11)] false [] 0 Proofs.Tryz.f104
def XT:=Ae oO
theorem AGA:oO=some XT:=AV (by kernel_rfl)
abbrev Nb:=tr [(6,9),(11,11),(15,15),(25,25)] false [(6,Dp 9)] 0 Proofs.Tryz.f105
def G9:=Ae Nb
theorem Xc:Nb=some G9:=AV (by kernel_rfl)
abbrev D7:=tr [(10,13),(19,29),(31,31)] false [] 0 Proofs.Tryz.f106
def CV:=Ae D7
theorem Ii:D7=some CV:=AV (by kernel_rfl)
abbrev aA:=tr [] false [(1,opp [0,1,2,3,4,9,5,6,7,8,10,11]),(2,Dp 18),(3,opp [0,1,2,3,4,5,6,7,8,10,11,12,13,14,15,9,16,17,18,19,20,21,22,23])] 0 Proofs.Tryz.f107
def Rx:=Ae aA
theorem AAK:aA=some Rx:=AV (by kernel_rfl)
abbrev Xu:=tr [(9,14),(19,39)] false [] 0 Proofs.Tryz.f108
def Oe:=Ae Xu
theorem tZ:Xu=some Oe:=AV (by kernel_rfl)
abbrev FZ:=tr [(4,8)] false [] 0 Proofs.Tryz.f109
def DX:=Ae FZ
theorem LW:FZ=some DX:=AV (by kernel_rfl)
abbrev AC1:=tr [(5,9)] false [] 0 Proofs.Tryz.f110
def eY:=Ae AC1
theorem ALp:AC1=some eY:=AV (by kernel_rfl)
abbrev jG:=tr [(5,7)] false [] 0 Proofs.Tryz.f111
def U2:=Ae jG
theorem ADN:jG=some U2:=AV (by kernel_rfl)
abbrev dN:=tr [(8,14),(16,20),(25,40)] false [] 0 Proofs.Tryz.f112
def TP:=Ae dN
theorem ACG:dN=some TP:=AV (by kernel_rfl)
abbrev aT:=tr [(8,8),(11,16),(21,25),(27,28)] false [] 0 Proofs.Tryz.f113
def LP:=Ae aT
theorem y5:aT=some LP:=AV (by kernel_rfl)
abbrev kG:=tr [(8,10),(15,30)] false [(3,Dp 4)] 0 Proofs.Tryz.f114
def O6:=Ae kG
theorem ADI:kG=some O6:=AV (by kernel_rfl)
abbrev V9:=tr [(10,11),(13,17),(44,45)] false [(3,Dp 17),(4,Dp 12),(6,opp [0,1,2,3,4,5,7,6,8,9,10,11,12]),(7,Dp 18)] 0 Proofs.Tryz.f115
def Ij:=Ae V9
theorem qG:V9=some Ij:=AV (by kernel_rfl)
abbrev dM:=tr [(9,12),(14,43)] false [] 0 Proofs.Tryz.f116
def MR:=Ae dM
theorem ACd:dM=some MR:=AV (by kernel_rfl)
abbrev jB:=tr [(7,7),(11,20),(25,42)] false [] 0 Proofs.Tryz.f117
def Ox:=Ae jB
theorem AE1:jB=some Ox:=AV (by kernel_rfl)
abbrev fF:=tr [(8,17)] false [] 0 Proofs.Tryz.f118
def MC:=Ae fF
theorem ACg:fF=some MC:=AV (by kernel_rfl)
abbrev kF:=tr [(11,16),(18,29),(31,39),(61,75),(77,89),(91,98)] false [(10,Dp 12),(11,Dp 11),(17,Dp 12)] 0 Proofs.Tryz.f119
def OG:=Ae kF
theorem AEi:kF=some OG:=AV (by kernel_rfl)
abbrev oI:=tr [(7,15),(26,43)] false [(3,Dp 10)] 0 Proofs.Tryz.f120
def XB:=Ae oI
theorem AGR:oI=some XB:=AV (by kernel_rfl)
abbrev aP:=tr [(5,7)] false [] 0 Proofs.Tryz.f121
def RH:=Ae aP
theorem AAW:aP=some RH:=AV (by kernel_rfl)
abbrev Zz:=tr [(5,7)] false [] 0 Proofs.Tryz.f122
def Qy:=Ae Zz
theorem zf:Zz=some Qy:=AV (by kernel_rfl)
abbrev AIF:=tr [(3,8)] false [] 0 Proofs.Tryz.f123
def qy:=Ae AIF
theorem AOX:AIF=some qy:=AV (by kernel_rfl)
abbrev uo:=tr [(33,34)] false [(2,Dp 27),(4,Dp 16)] 0 Proofs.Tryz.f124
def YL:=Ae uo
theorem AHM:uo=some YL:=AV (by kernel_rfl)
abbrev AIp:=tr [(3,16)] false [] 0 Proofs.Tryz.f125
def uG:=Ae AIp
theorem AOS:AIp=some uG:=AV (by kernel_rfl)
abbrev AIb:=tr [(3,8)] false [] 0 Proofs.Tryz.f126
def ru:=Ae AIb
theorem AOE:AIb=some ru:=AV (by kernel_rfl)
abbrev AIX:=tr [(5,25)] false [] 0 Proofs.Tryz.f127
def qp:=Ae AIX
theorem AOG:AIX=some qp:=AV (by kernel_rfl)
abbrev AIg:=tr [(3,8)] false [] 0 Proofs.Tryz.f128
def su:=Ae AIg
theorem APG:AIg=some su:=AV (by kernel_rfl)
abbrev AFv:=tr [(7,7),(12,20),(22,23)] false [] 0 Proofs.Tryz.f129
def l9:=Ae AFv
theorem ALz:AFv=some l9:=AV (by kernel_rfl)
abbrev Zw:=tr [(4,11),(13,21)] false [] 0 Proofs.Tryz.f130
def RY:=Ae Zw
theorem yT:Zw=some RY:=AV (by kernel_rfl)
abbrev Zr:=tr [(4,6),(8,13)] false [] 0 Proofs.Tryz.f131
def Rw:=Ae Zr
theorem AAc:Zr=some Rw:=AV (by kernel_rfl)
abbrev Yh:=tr [(4,14),(16,21)] true [] 165 Proofs.Tryz.f132
def Pv:=Ae Yh
theorem wJ:Yh=some Pv:=AV (by kernel_rfl)
abbrev IQ:=tr [(4,8)] false [] 0 Proofs.Tryz.f133
def EI:=Ae IQ
theorem QV:IQ=some EI:=AV (by kernel_rfl)
abbrev dU:=tr [(5,9)] false [] 0 Proofs.Tryz.f134
def TM:=Ae dU
theorem AB0:dU=some TM:=AV (by kernel_rfl)
abbrev Gv:=tr [(4,8)] false [] 0 Proofs.Tryz.f135
def D5:=Ae Gv
theorem Oy:Gv=some D5:=AV (by kernel_rfl)
abbrev dI:=tr [(5,9)] false [] 0 Proofs.Tryz.f136
def UA:=Ae dI
theorem ABR:dI=some UA:=AV (by kernel_rfl)
abbrev bZ:=tr [(8,10),(15,19),(21,24)] false [] 0 Proofs.Tryz.f137
def Tn:=Ae bZ
theorem ABw:bZ=some Tn:=AV (by kernel_rfl)
abbrev Yi:=tr [(9,9),(11,20)] false [] 0 Proofs.Tryz.f138
def P6:=Ae Yi
theorem wu:Yi=some P6:=AV (by kernel_rfl)
abbrev Yk:=tr [(8,12),(14,14),(33,38),(43,45),(53,58),(60,65),(68,68),(82,90),(92,92),(113,114),(120,129),(131,131),(149,149),(155,155)] false [(3,opp [0,1,2,3,4,5,6,7,8,9,10,11,13,14,12,15,16,17]),(9,Dp 8),(16,opp [0,1,2,3,4,5,6,7,8,10,11,9,12]),(19,opp [0,1,2,3,4,5,6,7,8,9,10,11,13,14,15,16,17,12,18]),(22,Dp 5),(26,opp [0,1,2,3,4,5,6,7,8,9,10,11,13,14,12,15]),(28,Dp 5)] 0 Proofs.Tryz.f139
def QN:=Ae Yk
theorem wz:Yk=some QN:=AV (by kernel_rfl)
abbrev J7:=tr [(10,12),(14,29),(31,34),(36,53),(55,62)] false [] 0 Proofs.Tryz.f140
def Fa:=Ae J7
theorem Ui:J7=some Fa:=AV (by kernel_rfl)
abbrev Ku:=tr [(5,7)] false [] 0 Proofs.Tryz.f141
def GL:=Ae Ku
theorem Vo:Ku=some GL:=AV (by kernel_rfl)
abbrev zQ:=tr [(29,43)] false [(1,opp [0,1,2,3,4,5,6,7,9,10,11,12,13,14,15,16,17,18,8,19,20,21,22,23,24,25])] 0 Proofs.Tryz.f142
def ZU:=Ae zQ
theorem AJC:zQ=some ZU:=AV (by kernel_rfl)
abbrev ny:=tr [(7,11),(16,21)] false [(6,Dp 20)] 0 Proofs.Tryz.f143
def WL:=Ae ny
theorem AFu:ny=some WL:=AV (by kernel_rfl)
abbrev AAj:=tr [(2,3),(11,21),(29,32)] false [(1,Dp 7),(3,Dp 7)] 0 Proofs.Tryz.f144
def ZY:=Ae AAj
theorem AJA:AAj=some ZY:=AV (by kernel_rfl)
abbrev vG:=tr [(3,5)] false [] 0 Proofs.Tryz.f145
def Sj:=Ae vG
theorem AHA:vG=some Sj:=AV (by kernel_rfl)
abbrev iq:=tr [(8,9),(11,11),(15,39),(44,49),(51,54)] false [] 0 Proofs.Tryz.f146
def OX:=Ae iq
theorem ADi:iq=some OX:=AV (by kernel_rfl)
abbrev KU:=tr [(5,17)] false [] 0 Proofs.Tryz.f147
def GK:=Ae KU
theorem V7:KU=some GK:=AV (by kernel_rfl)
abbrev Ky:=tr [(5,7)] false [] 0 Proofs.Tryz.f148
def GX:=Ae Ky
theorem Vf:Ky=some GX:=AV (by kernel_rfl)
abbrev aF:=tr [(3,13),(15,17)] false [] 0 Proofs.Tryz.f149
def RX:=Ae aF
theorem zh:aF=some RX:=AV (by kernel_rfl)
abbrev aS:=tr [(4,13),(15,30),(32,36),(38,48),(50,56),(58,68)] false [] 0 Proofs.Tryz.f150
def Rl:=Ae aS
theorem yZ:aS=some Rl:=AV (by kernel_rfl)
abbrev Nh:=tr [(10,12),(14,29),(31,34),(36,53),(55,62)] false [] 0 Proofs.Tryz.f151
def HY:=Ae Nh
theorem XY:Nh=some HY:=AV (by kernel_rfl)
abbrev Lh:=tr [(10,12),(14,29),(31,34),(36,53),(55,62)] false [] 0 Proofs.Tryz.f152
def Gq:=Ae Lh
theorem W9:Lh=some Gq:=AV (by kernel_rfl)
abbrev Yu:=tr [(6,10),(12,17)] false [] 0 Proofs.Tryz.f153
def Px:=Ae Yu
theorem wQ:Yu=some Px:=AV (by kernel_rfl)
abbrev LQ:=tr [(3,3),(5,7)] false [] 0 Proofs.Tryz.f154
def GU:=Ae LQ
theorem Vx:LQ=some GU:=AV (by kernel_rfl)
abbrev Y7:=tr [(7,8),(10,11),(13,14),(16,18),(20,23),(25,27),(29,29),(40,46),(48,48),(58,64),(66,70),(72,72),(85,87),(89,89),(107,111),(113,113),(133,139),(141,141),(155,157)] false [(13,Dp 10),(16,opp [0,1,2,3,4,9,5,6,7,8,10,11]),(24,opp [0,1,2,3,4,5,6,7,9,10,8,11]),(27,Dp 5),(28,opp [0,1,2,3,4,5,6,7,9,10,8,11]),(31,Dp 13),(32,Dp 6),(35,Dp 13)] 0 Proofs.Tryz.f155
def QA:=Ae Y7
theorem wZ:Y7=some QA:=AV (by kernel_rfl)
abbrev X9:=tr [(13,14),(24,24)] false [(4,Dp 9)] 0 Proofs.Tryz.f156
def Ob:=Ae X9
theorem ql:X9=some Ob:=AV (by kernel_rfl)
abbrev Hq:=tr [(10,13),(15,17),(35,36)] false [(4,Dp 17),(6,Dp 18)] 0 Proofs.Tryz.f157
def D6:=Ae Hq
theorem PL:Hq=some D6:=AV (by kernel_rfl)
abbrev Je:=tr [(25,27),(29,32),(34,39),(51,57),(59,60),(77,79),(81,84),(86,91),(104,109),(111,112),(129,139),(141,150),(152,157),(172,184),(186,198),(200,212),(214,219)] false [(5,Dp 11),(11,Dp 18),(17,Dp 12),(23,Dp 18),(35,Dp 14)] 0 Proofs.Tryz.f158
def FC:=Ae Je
theorem TW:Je=some FC:=AV (by kernel_rfl)
abbrev vT:=tr [(8,15),(27,33),(36,45),(47,49),(51,53),(55,57),(59,71),(73,91)] false [(3,Dp 10)] 0 Proofs.Tryz.f160
def YN:=Ae vT
theorem AHa:vT=some YN:=AV (by kernel_rfl)
abbrev zW:=tr [(9,30),(45,51)] false [(3,Dp 15)] 0 Proofs.Tryz.f161
def ZL:=Ae zW
theorem AJB:zW=some ZL:=AV (by kernel_rfl)
abbrev dA:=tr [(8,13),(15,18),(27,27)] false [(4,Dp 9)] 0 Proofs.Tryz.f162
def Tz:=Ae dA
theorem ABK:dA=some Tz:=AV (by kernel_rfl)
abbrev jC:=tr [(5,7)] false [] 0 Proofs.Tryz.f163
def U7:=Ae jC
theorem AEK:jC=some U7:=AV (by kernel_rfl)
abbrev Xw:=tr [(1,7)] false [] 0 Proofs.Tryz.f165
def JX:=Ae Xw
theorem sH:Xw=some JX:=AV (by kernel_rfl)
abbrev aO:=tr [(3,7)] true [] 165 Proofs.Tryz.f166
def Qs:=Ae aO
theorem AAN:aO=some Qs:=AV (by kernel_rfl)
abbrev X8:=tr [(4,24),(26,27),(29,36)] true [] 165 Proofs.Tryz.f167
def Og:=Ae X8
theorem rZ:X8=some Og:=AV (by kernel_rfl)
abbrev Yf:=tr [(5,6),(15,17),(19,25),(27,40),(42,46)] false [(1,Dp 10),(8,Dp 16)] 0 Proofs.Tryz.f168
def QC:=Ae Yf
theorem wS:Yf=some QC:=AV (by kernel_rfl)
abbrev Iu:=tr [(10,13),(15,17),(35,36)] false [(4,Dp 17),(6,Dp 18)] 0 Proofs.Tryz.f169
def Ec:=Ae Iu
theorem Ru:Iu=some Ec:=AV (by kernel_rfl)
abbrev KP:=tr [(25,27),(29,32),(34,39),(51,57),(59,60),(77,79),(81,84),(86,91),(104,109),(111,112),(129,139),(141,150),(152,157),(172,184),(186,198),(200,212),(214,219)] false [(5,Dp 11),(11,Dp 18),(17,Dp 12),(23,Dp 18),(35,Dp 14)] 0 Proofs.Tryz.f170
def GN:=Ae KP
theorem Vr:KP=some GN:=AV (by kernel_rfl)
abbrev Ib:=tr [(10,13),(15,17),(35,36)] false [(4,Dp 17),(6,Dp 18)] 0 Proofs.Tryz.f171
def ET:=Ae Ib
theorem Qn:Ib=some ET:=AV (by kernel_rfl)
abbrev J8:=tr [(25,27),(29,32),(34,39),(51,57),(59,60),(77,79),(81,84),(86,91),(104,109),(111,112),(129,139),(141,150),(152,157),(172,184),(186,198),(200,212),(214,219)] false [(5,Dp 11),(11,Dp 18),(17,Dp 12),(23,Dp 18),(35,Dp 14)] 0 Proofs.Tryz.f172
def Fb:=Ae J8
theorem U8:J8=some Fb:=AV (by kernel_rfl)
abbrev ZI:=tr [(7,17),(22,24),(34,40)] false [(5,Dp 10)] 0 Proofs.Tryz.f173
def Py:=Ae ZI
theorem wE:ZI=some Py:=AV (by kernel_rfl)
abbrev XA:=tr [(20,23),(63,66),(83,89),(118,123)] false [(0,Dp 11),(2,Dp 14),(3,opp [0,1,3,4,5,6,7,8,9,2,10,11]),(4,opp [0,1,2,3,4,5,6,8,9,10,11,7,12,13]),(6,opp [0,1,2,3,4,5,6,7,8,9,15,10,11,12,13,14,16,17,18]),(8,Dp 10),(9,opp [0,1,2,3,4,5,6,7,8,9,10,11,12,13,14,20,15,16,17,18,19,21,22,23]),(11,Dp 7),(12,Dp 11)] 0 Proofs.Tryz.f174
def Nc:=Ae XA
theorem o7:XA=some Nc:=AV (by kernel_rfl)
abbrev ZC:=tr [(14,28),(30,33),(35,39),(47,50),(52,70),(78,81),(83,101),(134,144),(146,149),(151,162),(194,197)] false [(5,Dp 7),(8,Dp 7),(12,opp [0,1,8,9,10,11,12,13,14,2,3,4,5,6,7,15]),(13,opp [0,1,2,3,4,5,6,7,8,9,11,12,13,14,10,15]),(18,Dp 18),(19,opp [0,1,2,3,4,5,12,13,14,15,6,7,8,9,10,11,16]),(0,Dp 7)] 0 Proofs.Tryz.f175
def QE:=Ae ZC
theorem xR:ZC=some QE:=AV (by kernel_rfl)
abbrev J9:=tr [(12,19),(21,22),(24,57)] false [] 0 Proofs.Tryz.f176
def Fg:=Ae J9
theorem Un:J9=some Fg:=AV (by kernel_rfl)
abbrev oC:=tr [(8,9),(11,11),(16,25),(44,50),(52,57)] false [(9,Dp 16)] 0 Proofs.Tryz.f177
def XU:=Ae oC
theorem AFm:oC=some XU:=AV (by kernel_rfl)
abbrev uf:=tr [(8,14),(16,19),(24,30),(33,33),(48,50),(52,54),(56,58),(60,62),(64,70),(72,77),(79,88),(90,99),(101,107),(109,109),(124,124),(142,144),(146,148),(150,152),(154,160),(162,168),(170,173)] false [(10,Dp 13),(32,Dp 13),(34,Dp 16)] 0 Proofs.Tryz.f178
def YH:=Ae uf
theorem AHL:uf=some YH:=AV (by kernel_rfl)
abbrev vN:=tr [] false [(0,Dp 15)] 0 Proofs.Tryz.f179
def YG:=Ae vN
theorem AHR:vN=some YG:=AV (by kernel_rfl)
abbrev Nl:=tr [(6,6),(10,15),(17,18)] false [] 0 Proofs.Tryz.f180
def He:=Ae Nl
theorem XV:Nl=some He:=AV (by kernel_rfl)
abbrev ZJ:=tr [(5,8)] false [] 0 Proofs.Tryz.f181
def Pj:=Ae ZJ
theorem vZ:ZJ=some Pj:=AV (by kernel_rfl)
abbrev Xn:=tr [(11,15),(17,19),(27,27)] false [(4,Dp 8)] 0 Proofs.Tryz.f182
def OQ:=Ae Xn
theorem uH:Xn=some OQ:=AV (by kernel_rfl)
abbrev Xx:=tr [(2,5)] false [] 0 Proofs.Tryz.f183
def N9:=Ae Xx
theorem rW:Xx=some N9:=AV (by kernel_rfl)
abbrev VH:=tr [(6,10),(12,13),(23,23)] false [(5,Dp 10)] 0 Proofs.Tryz.f184
def LY:=Ae VH
theorem lC:VH=some LY:=AV (by kernel_rfl)
abbrev Me:=tr [(12,19),(21,22),(24,57)] false [] 0 Proofs.Tryz.f185
def G5:=Ae Me
theorem Xb:Me=some G5:=AV (by kernel_rfl)
abbrev Le:=tr [(12,19),(21,22),(24,57)] false [] 0 Proofs.Tryz.f186
def Gs:=Ae Le
theorem XP:Le=some Gs:=AV (by kernel_rfl)
abbrev Yx:=tr [(10,19),(25,27),(44,44)] false [(5,opp [0,1,2,3,4,5,6,7,8,9,10,11,13,14,12,15])] 0 Proofs.Tryz.f187
def Pm:=Ae Yx
theorem xO:Yx=some Pm:=AV (by kernel_rfl)
abbrev JJ:=tr [(11,12),(14,15)] false [(3,Dp 24)] 0 Proofs.Tryz.f188
def Ee:=Ae JJ
theorem SK:JJ=some Ee:=AV (by kernel_rfl)
abbrev ug:=tr [(7,9),(14,19),(21,28)] false [] 0 Proofs.Tryz.f189
def YI:=Ae ug
theorem AGv:ug=some YI:=AV (by kernel_rfl)
abbrev qN:=tr [] false [(1,Dp 18)] 0 Proofs.Tryz.f190
def Wu:=Ae qN
theorem AFS:qN=some Wu:=AV (by kernel_rfl)
abbrev Xj:=tr [(8,13),(15,18),(27,27)] false [(4,Dp 9)] 0 Proofs.Tryz.f191
def Oj:=Ae Xj
theorem tK:Xj=some Oj:=AV (by kernel_rfl)
abbrev YX:=tr [(5,7)] false [] 0 Proofs.Tryz.f192
def P8:=Ae YX
theorem wY:YX=some P8:=AV (by kernel_rfl)
abbrev iw:=tr [(14,29)] false [(1,Dp 6)] 0 Proofs.Tryz.f193
def Uz:=Ae iw
theorem AEh:iw=some Uz:=AV (by kernel_rfl)
abbrev jX:=tr [(29,32)] false [(1,opp [0,1,2,3,4,5,6,7,8,9,10,11,12,13,19,14,15,16,17,18,20,21,22]),(3,opp [0,1,2,3,4,5,6,7,8,10,11,12,9,13,14])] 0 Proofs.Tryz.f194
def Uj:=Ae jX
theorem AEq:jX=some Uj:=AV (by kernel_rfl)
abbrev oK:=tr [] false [(1,Dp 12)] 0 Proofs.Tryz.f195
def XI:=Ae oK
theorem AFk:oK=some XI:=AV (by kernel_rfl)
abbrev yg:=tr [(6,6),(9,15),(17,21),(23,33)] false [] 0 Proofs.Tryz.f196
def Zf:=Ae yg
theorem AI2:yg=some Zf:=AV (by kernel_rfl)
abbrev TF:=tr [(2,5)] false [] 0 Proofs.Tryz.f197
def Jq:=Ae TF
theorem gX:TF=some Jq:=AV (by kernel_rfl)
abbrev Yn:=tr [(9,12),(14,15),(25,25)] false [(4,Dp 10)] 0 Proofs.Tryz.f198
def QS:=Ae Yn
theorem xG:Yn=some QS:=AV (by kernel_rfl)
abbrev Qi:=tr [(2,6)] false [] 0 Proofs.Tryz.f199
def Iw:=Ae Qi
theorem Zk:Qi=some Iw:=AV (by kernel_rfl)
abbrev Yo:=tr [(9,15),(20,25),(27,30),(42,46),(48,51),(62,62)] true [(8,Dp 15),(16,opp [0,1,2,3,6,7,4,5,8,9])] 165 Proofs.Tryz.f200
def QD:=Ae Yo
theorem vg:Yo=some QD:=AV (by kernel_rfl)
abbrev J6:=tr [(11,12),(14,15)] false [(3,Dp 24)] 0 Proofs.Tryz.f201
def Fe:=Ae J6
theorem U6:J6=some Fe:=AV (by kernel_rfl)
abbrev Jp:=tr [(11,12),(14,15)] false [(3,Dp 24)] 0 Proofs.Tryz.f202
def FN:=Ae Jp
theorem UJ:Jp=some FN:=AV (by kernel_rfl)
abbrev UE:=tr [(8,13),(15,18),(27,27)] false [(4,Dp 9)] 0 Proofs.Tryz.f203
def KG:=Ae UE
theorem iU:UE=some KG:=AV (by kernel_rfl)
abbrev VW:=tr [(5,7)] false [] 0 Proofs.Tryz.f204
def Lc:=Ae VW
theorem mP:VW=some Lc:=AV (by kernel_rfl)
abbrev Vb:=tr [(5,8)] false [] 0 Proofs.Tryz.f205
def LU:=Ae Vb
theorem lX:Vb=some LU:=AV (by kernel_rfl)
abbrev Z9:=tr [(2,3),(11,12)] false [(1,Dp 6)] 0 Proofs.Tryz.f206
def Rh:=Ae Z9
theorem zK:Z9=some Rh:=AV (by kernel_rfl)
abbrev aG:=tr [(2,3),(5,6)] false [(2,Dp 6)] 0 Proofs.Tryz.f207
def RI:=Ae aG
theorem AAe:aG=some RI:=AV (by kernel_rfl)
abbrev TG:=tr [(8,13),(15,18),(27,27)] false [(4,Dp 9)] 0 Proofs.Tryz.f208
def Jt:=Ae TG
theorem cO:TG=some Jt:=AV (by kernel_rfl)
abbrev Z4:=tr [(5,16)] false [] 0 Proofs.Tryz.f209
def RF:=Ae Z4
theorem zS:Z4=some RF:=AV (by kernel_rfl)
abbrev aJ:=tr [(8,13),(15,18),(27,27)] false [(4,Dp 9)] 0 Proofs.Tryz.f210
def Qz:=Ae aJ
theorem yK:aJ=some Qz:=AV (by kernel_rfl)
abbrev gI:=tr [(5,7)] false [] 0 Proofs.Tryz.f211
def TQ:=Ae gI
theorem ABz:gI=some TQ:=AV (by kernel_rfl)
abbrev Y4:=tr [(5,14),(16,17),(24,26),(28,33)] false [(5,Dp 7)] 0 Proofs.Tryz.f212
def Pg:=Ae Y4
theorem xP:Y4=some Pg:=AV (by kernel_rfl)
abbrev Gi:=tr [(6,6),(10,15),(17,18)] false [] 0 Proofs.Tryz.f213
def Dy:=Ae Gi
theorem Nr:Gi=some Dy:=AV (by kernel_rfl)
abbrev Qw:=tr [(5,8)] false [] 0 Proofs.Tryz.f214
def JL:=Ae Qw
theorem bM:Qw=some JL:=AV (by kernel_rfl)
abbrev Fp:=tr [(6,6),(10,15),(17,18)] false [] 0 Proofs.Tryz.f215
def Dj:=Ae Fp
theorem Lp:Fp=some Dj:=AV (by kernel_rfl)
abbrev Qe:=tr [(5,8)] false [] 0 Proofs.Tryz.f216
def Iy:=Ae Qe
theorem Za:Qe=some Iy:=AV (by kernel_rfl)
abbrev KZ:=tr [(6,6),(10,15),(17,18)] false [] 0 Proofs.Tryz.f217
def GV:=Ae KZ
theorem V6:KZ=some GV:=AV (by kernel_rfl)
abbrev X4:=tr [(5,8)] false [] 0 Proofs.Tryz.f218
def OI:=Ae X4
theorem tV:X4=some OI:=AV (by kernel_rfl)
abbrev aN:=tr [(5,15),(17,20),(22,26),(32,36),(42,59),(61,63),(65,67),(69,71),(73,75),(77,83),(85,95),(97,98),(100,107)] false [(8,Dp 6),(11,Dp 6)] 0 Proofs.Tryz.f219
def Q9:=Ae aN
theorem yu:aN=some Q9:=AV (by kernel_rfl)
abbrev YA:=tr [(8,8),(10,18),(20,24)] false [(6,Dp 9)] 0 Proofs.Tryz.f220
def O5:=Ae YA
theorem uD:YA=some O5:=AV (by kernel_rfl)
abbrev Zl:=tr [(4,12),(14,15),(17,29)] false [] 0 Proofs.Tryz.f221
def Q5:=Ae Zl
theorem AAG:Zl=some Q5:=AV (by kernel_rfl)
def F:T AF:=(.n none (.n none (.n (some MN) (.n (some Ua) (.n (some SN) (.n (some fB) (.n (some ADE) (.n (some qp) .e .e) (.n (some Oj) .e .e)) (.n (some RN) .e .e)) (.n (some JY) (.n (some WT) (.n (some WL) .e .e) (.n (some RI) .e .e)) (.n (some U2) (.n (some QE) .e .e) .e))) (.n (some Kv) (.n (some MP) (.n (some WO) (.n (some D5) .e .e) (.n (some Iw) .e .e)) (.n (some AAm) (.n (some Og) .e .e) .e)) (.n (some OM) (.n (some IW) (.n (some HY) .e .e) (.n (some Dj) .e .e)) (.n (some OG) (.n (some N9) .e .e) .e)))) (.n (some OC) (.n (some Ny) (.n (some Lu) (.n (some uT) (.n (some Rw) .e .e) (.n (some XI) .e .e)) (.n (some Us) (.n (some U7) .e .e) .e)) (.n (some Ue) (.n (some WQ) (.n (some GK) .e .e) (.n (some TQ) .e .e)) (.n (some Ij) (.n (some YG) .e .e) .e))) (.n (some Qb) (.n (some MG) (.n (some KO) (.n (some QN) .e .e) (.n (some KG) .e .e)) (.n (some Rx) (.n (some ET) .e .e) .e)) (.n (some OZ) (.n (some Ea) (.n (some QA) .e .e) (.n (some Q9) .e .e)) (.n (some qy) (.n (some Pm) .e .e) .e))))) (.n (some SX) (.n (some uM) (.n (some je) (.n (some SQ) (.n (some Em) (.n (some l9) .e .e) (.n (some Uz) .e .e)) (.n (some TI) (.n (some ZL) .e .e) .e)) (.n (some JM) (.n (some ig) (.n (some Sj) .e .e) (.n (some RF) .e .e)) (.n (some LP) (.n (some XU) .e .e) .e))) (.n (some jD) (.n (some YV) (.n (some Sr) (.n (some Tn) .e .e) (.n (some Fe) .e .e)) (.n (some G9) (.n (some Ec) .e .e) .e)) (.n (some OW) (.n (some Qd) (.n (some Px) .e .e) (.n (some GV) .e .e)) (.n (some RH) (.n (some G5) .e .e) .e)))) (.n (some Wp) (.n (some Ov) (.n (some OA) (.n (some bK) (.n (some EI) .e .e) (.n (some Jq) .e .e)) (.n (some Rq) (.n (some JX) .e .e) .e)) (.n (some Dh) (.n (some Jy) (.n (some RX) .e .e) (.n (some Dy) .e .e)) (.n (some Ox) (.n (some Pj) .e .e) .e))) (.n (some fC) (.n (some AA0) (.n (some N8) (.n (some GL) .e .e) (.n (some LU) .e .e)) (.n (some DX) (.n (some Py) .e .e) .e)) (.n (some Pz) (.n (some Wl) (.n (some D6) .e .e) (.n (some Q5) .e .e)) (.n (some uG) (.n (some YI) .e .e) .e)))))) (.n none (.n (some WY) (.n (some L8) (.n (some MO) (.n (some Ux) (.n (some WH) (.n (some su) .e .e) (.n (some P8) .e .e)) (.n (some Rt) (.n (some YN) .e .e) .e)) (.n (some Jz) (.n (some D8) (.n (some ZY) .e .e) (.n (some Jt) .e .e)) (.n (some TP) (.n (some Fg) .e .e) .e))) (.n (some DJ) (.n (some EO) (.n (some bQ) (.n (some UA) .e .e) (.n (some QD) .e .e)) (.n (some XT) (.n (some QC) .e .e) .e)) (.n (some QZ) (.n (some qo) (.n (some Gq) .e .e) (.n (some Iy) .e .e)) (.n (some XB) (.n (some LY) .e .e) .e)))) (.n (some MK) (.n (some L9) (.n (some Qg) (.n (some Qk) (.n (some Pv) .e .e) (.n (some Zf) .e .e)) (.n (some O4) .e .e)) (.n (some MF) (.n (some KT) (.n (some GX) .e .e) (.n (some Pg) .e .e)) (.n (some MR) (.n (some He) .e .e) .e))) (.n (some GI) (.n (some Si) (.n (some FH) (.n (some Fa) .e .e) (.n (some Lc) .e .e)) (.n (some Oe) (.n (some Fb) .e .e) .e)) (.n (some AET) (.n (some XM) (.n (some Ob) .e .e) (.n (some O5) .e .e)) (.n (some YL) (.n (some Ee) .e .e) .e))))) (.n (some bT) (.n (some AA9) (.n (some MJ) (.n (some OY) (.n (some NI) (.n (some RY) .e .e) (.n (some Uj) .e .e)) (.n (some RU) (.n (some Tz) .e .e) .e)) (.n (some Io) (.n (some Jc) (.n (some OX) .e .e) (.n (some Qz) .e .e)) (.n (some O6) (.n (some YH) .e .e) .e))) (.n (some ML) (.n (some MH) (.n (some Uc) (.n (some P6) .e .e) (.n (some FN) .e .e)) (.n (some CV) (.n (some GN) .e .e) .e)) (.n (some Ql) (.n (some Ko) (.n (some GU) .e .e) (.n (some OI) .e .e)) (.n (some Qy) (.n (some Gs) .e .e) .e)))) (.n (some VA) (.n (some J4) (.n (some Oo) (.n (some LG) (.n (some TM) .e .e) (.n (some QS) .e .e)) (.n (some Gw) (.n (some Qs) .e .e) .e)) (.n (some Om) (.n (some Ou) (.n (some Rl) .e .e) (.n (some JL) .e .e)) (.n (some MC) (.n (some OQ) .e .e) .e))) (.n (some U0) (.n (some OO) (.n (some D9) (.n (some ZU) .e .e) (.n (some Rh) .e .e)) (.n (some eY) (.n (some Nc) .e .e) .e)) (.n (some U9) (.n (some RJ) (.n (some FC) .e .e) .e) (.n (some ru) (.n (some Wu) .e .e) .e)))))))
theorem ABN:T.get F 3=some MN:=by kernel_rfl
theorem AGf:T.get F 5=some SX:=by kernel_rfl
theorem AOn:T.get F 6=some bT:=by kernel_rfl
theorem AI1:T.get F 7=some Ua:=by kernel_rfl
theorem ACA:T.get F 8=some L8:=by kernel_rfl
theorem ASd:T.get F 9=some uM:=by kernel_rfl
theorem AVC:T.get F 10=some AA9:=by kernel_rfl
theorem AEJ:T.get F 11=some OC:=by kernel_rfl
theorem ACK:T.get F 12=some MK:=by kernel_rfl
theorem AG3:T.get F 15=some SN:=by kernel_rfl
theorem ABj:T.get F 16=some MO:=by kernel_rfl
theorem ARN:T.get F 17=some je:=by kernel_rfl
theorem ACR:T.get F 18=some MJ:=by kernel_rfl
theorem ADB:T.get F 19=some Ny:=by kernel_rfl
theorem AB3:T.get F 20=some L9:=by kernel_rfl
theorem AEB:T.get F 21=some Ov:=by kernel_rfl
theorem xX:T.get F 22=some J4:=by kernel_rfl
theorem AAV:T.get F 23=some Kv:=by kernel_rfl
theorem PY:T.get F 24=some DJ:=by kernel_rfl
theorem AQH:T.get F 25=some jD:=by kernel_rfl
theorem ACa:T.get F 26=some ML:=by kernel_rfl
theorem AFV:T.get F 27=some Qb:=by kernel_rfl
theorem ak:T.get F 28=some GI:=by kernel_rfl
theorem AHU:T.get F 33=some SQ:=by kernel_rfl
theorem AEs:T.get F 34=some OY:=by kernel_rfl
theorem ABh:T.get F 35=some Lu:=by kernel_rfl
theorem AGF:T.get F 36=some Qg:=by kernel_rfl
theorem AD9:T.get F 37=some OA:=by kernel_rfl
theorem ADO:T.get F 38=some Oo:=by kernel_rfl
theorem ABT:T.get F 39=some MP:=by kernel_rfl
theorem WZ:T.get F 40=some EO:=by kernel_rfl
theorem AL0:T.get F 41=some YV:=by kernel_rfl
theorem ABa:T.get F 42=some MH:=by kernel_rfl
theorem ACV:T.get F 43=some MG:=by kernel_rfl
theorem AHc:T.get F 44=some Si:=by kernel_rfl
theorem AVe:T.get F 45=some AA0:=by kernel_rfl
theorem AEC:T.get F 46=some OO:=by kernel_rfl
theorem uP:T.get F 47=some JY:=by kernel_rfl
theorem wG:T.get F 48=some Jz:=by kernel_rfl
theorem qw:T.get F 49=some JM:=by kernel_rfl
theorem nG:T.get F 50=some Io:=by kernel_rfl
theorem AIy:T.get F 51=some Ue:=by kernel_rfl
theorem AB7:T.get F 52=some MF:=by kernel_rfl
theorem SS:T.get F 53=some Dh:=by kernel_rfl
theorem ADJ:T.get F 54=some Om:=by kernel_rfl
theorem ADg:T.get F 55=some OM:=by kernel_rfl
theorem AGY:T.get F 56=some QZ:=by kernel_rfl
theorem AEk:T.get F 57=some OW:=by kernel_rfl
theorem AFJ:T.get F 58=some Ql:=by kernel_rfl
theorem AEA:T.get F 59=some OZ:=by kernel_rfl
theorem AFn:T.get F 68=some Qk:=by kernel_rfl
theorem ANf:T.get F 69=some bK:=by kernel_rfl
theorem AAr:T.get F 70=some LG:=by kernel_rfl
theorem AJy:T.get F 71=some WO:=by kernel_rfl
theorem AOI:T.get F 72=some bQ:=by kernel_rfl
theorem AHP:T.get F 73=some Sr:=by kernel_rfl
theorem AI5:T.get F 74=some Uc:=by kernel_rfl
theorem AAY:T.get F 75=some KO:=by kernel_rfl
theorem Yz:T.get F 76=some FH:=by kernel_rfl
theorem ADm:T.get F 77=some N8:=by kernel_rfl
theorem Vg:T.get F 78=some D9:=by kernel_rfl
theorem AKr:T.get F 79=some WT:=by kernel_rfl
theorem Vt:T.get F 80=some D8:=by kernel_rfl
theorem APr:T.get F 81=some ig:=by kernel_rfl
theorem uI:T.get F 82=some Jc:=by kernel_rfl
theorem AJk:T.get F 83=some WQ:=by kernel_rfl
theorem AAC:T.get F 84=some KT:=by kernel_rfl
theorem wM:T.get F 85=some Jy:=by kernel_rfl
theorem ADb:T.get F 86=some Ou:=by kernel_rfl
theorem lI:T.get F 87=some IW:=by kernel_rfl
theorem ASU:T.get F 88=some qo:=by kernel_rfl
theorem AFU:T.get F 89=some Qd:=by kernel_rfl
theorem yY:T.get F 90=some Ko:=by kernel_rfl
theorem Xg:T.get F 91=some Ea:=by kernel_rfl
theorem yU:T.get F 113=some LP:=by kernel_rfl
theorem ADt:T.get F 114=some O6:=by kernel_rfl
theorem nI:T.get F 115=some Ij:=by kernel_rfl
theorem ABu:T.get F 116=some MR:=by kernel_rfl
theorem AE6:T.get F 117=some Ox:=by kernel_rfl
theorem AB5:T.get F 118=some MC:=by kernel_rfl
theorem ADH:T.get F 119=some OG:=by kernel_rfl
theorem AHb:T.get F 145=some Sj:=by kernel_rfl
theorem ADe:T.get F 146=some OX:=by kernel_rfl
theorem JQ:T.get F 165=some JX:=by kernel_rfl
abbrev CO(n:Nat)(a:AF):Prop:=ADl Go.Proofs.Tryz.prog F n a
theorem ok1{n:Nat}{a:AF}{fn:Func}{loc:Nat->Bool}{f:Bool}{d:APj}{dg:Nat}(g:Go.Proofs.Tryz.prog.funcs[n]? =some fn)(i:trF Go.Proofs.Tryz.prog loc f d dg fn=some a)(k:(fn.name== "runtime.NumGoroutine")=false:=by kernel_rfl)(hd:a.dg=dg:=by kernel_rfl)(hi:AR9 a.dp=true:=by kernel_rfl):CO n a:=.one g k i hd hi
theorem xU:CO 3 MN:=ok1 Proofs.Tryz.func3 ACY
theorem ABV:CO 4 WY:=ok1 Proofs.Tryz.func4 AFF
theorem ADS:CO 5 SX:=ok1 Proofs.Tryz.func5 AGi
theorem ALk:CO 6 bT:=ok1 Proofs.Tryz.func6 AOK
theorem AFB:CO 7 Ua:=ok1 Proofs.Tryz.func7 AI0
theorem vX:CO 8 L8:=ok1 Proofs.Tryz.func8 AB9
theorem AN9:CO 9 uM:=ok1 Proofs.Tryz.func9 AS6
theorem AP2:CO 10 AA9:=ok1 Proofs.Tryz.func10 AVv
theorem yc:CO 11 OC:=ok1 Proofs.Tryz.func11 ADL
theorem xg:CO 12 MK:=ok1 Proofs.Tryz.func12 ABS
theorem ACI:CO 13 Wp:=ok1 Proofs.Tryz.func13 AGO
theorem yD:CO 14 VA:=ok1 Proofs.Tryz.func14 AEM
theorem AD5:CO 15 SN:=ok1 Proofs.Tryz.func15 AHk
theorem xM:CO 16 MO:=ok1 Proofs.Tryz.func16 ABy
theorem AMJ:CO 17 je:=ok1 Proofs.Tryz.func17 AQj
theorem xk:CO 18 MJ:=ok1 Proofs.Tryz.func18 AB6
theorem AAQ:CO 19 Ny:=ok1 Proofs.Tryz.func19 ADU
theorem xw:CO 20 L9:=ok1 Proofs.Tryz.func20 ABO
theorem zD:CO 21 Ov:=ok1 Proofs.Tryz.func21 ADc
theorem pG:CO 22 J4:=ok1 Proofs.Tryz.func22 xJ
theorem uN:CO 23 Kv:=ok1 Proofs.Tryz.func23 AAh
theorem O8:CO 24 DJ:=ok1 Proofs.Tryz.func24 Ph
theorem AME:CO 25 jD:=ok1 Proofs.Tryz.func25 ARg
theorem wK:CO 26 ML:=ok1 Proofs.Tryz.func26 ACc
theorem ACH:CO 27 Qb:=ok1 Proofs.Tryz.func27 AFI
theorem Y5:CO 28 GI:=ok1 Proofs.Tryz.func28 bP
theorem AGw:CO 29 fC:=ok1 Proofs.Tryz.func29 AKx
theorem AAq:CO 30 U0:=ok1 Proofs.Tryz.func30 AEI
theorem AHX:CO 31 fB:=ok1 Proofs.Tryz.func31 ALR
theorem zF:CO 32 Ux:=ok1 Proofs.Tryz.func32 AER
theorem AEm:CO 33 SQ:=ok1 Proofs.Tryz.func33 AHG
theorem zV:CO 34 OY:=ok1 Proofs.Tryz.func34 AEF
theorem xA:CO 35 Lu:=ok1 Proofs.Tryz.func35 ACT
theorem ABf:CO 36 Qg:=ok1 Proofs.Tryz.func36 AGJ
theorem zo:CO 37 OA:=ok1 Proofs.Tryz.func37 AC4
theorem yF:CO 38 Oo:=ok1 Proofs.Tryz.func38 AEE
theorem wX:CO 39 MP:=ok1 Proofs.Tryz.func39 ACF
theorem Uk:CO 40 EO:=ok1 Proofs.Tryz.func40 XQ
theorem AIw:CO 41 YV:=ok1 Proofs.Tryz.func41 ALy
theorem x9:CO 42 MH:=ok1 Proofs.Tryz.func42 ACe
theorem xI:CO 43 MG:=ok1 Proofs.Tryz.func43 ABt
theorem AEO:CO 44 Si:=ok1 Proofs.Tryz.func44 AHj
theorem AQ6:CO 45 AA0:=ok1 Proofs.Tryz.func45 AV1
theorem zA:CO 46 OO:=ok1 Proofs.Tryz.func46 ADV
theorem mW:CO 47 JY:=ok1 Proofs.Tryz.func47 sN
theorem nY:CO 48 Jz:=ok1 Proofs.Tryz.func48 wO
theorem kY:CO 49 JM:=ok1 Proofs.Tryz.func49 sV
theorem iO:CO 50 Io:=ok1 Proofs.Tryz.func50 nR
theorem AGD:CO 51 Ue:=ok1 Proofs.Tryz.func51 AIt
theorem vw:CO 52 MF:=ok1 Proofs.Tryz.func52 ABr
theorem Qo:CO 53 Dh:=ok1 Proofs.Tryz.func53 SA
theorem y8:CO 54 Om:=ok1 Proofs.Tryz.func54 ADk
theorem AAa:CO 55 OM:=ok1 Proofs.Tryz.func55 ADP
theorem ABg:CO 56 QZ:=ok1 Proofs.Tryz.func56 AFx
theorem yX:CO 57 OW:=ok1 Proofs.Tryz.func57 AEP
theorem ABM:CO 58 Ql:=ok1 Proofs.Tryz.func58 AFf
theorem zM:CO 59 OZ:=ok1 Proofs.Tryz.func59 AEp
theorem APD:CO 60 AET:=ok1 Proofs.Tryz.func60 ATA
theorem qE:CO 61 Pz:=ok1 Proofs.Tryz.func61 wF
theorem AAp:CO 62 U9:=ok1 Proofs.Tryz.func62 AEt
theorem AOj:CO 63 ADE:=ok1 Proofs.Tryz.func63 ATU
theorem ACS:CO 64 WH:=ok1 Proofs.Tryz.func64 AGZ
theorem Qm:CO 65 Em:=ok1 Proofs.Tryz.func65 SE
theorem iK:CO 66 NI:=ok1 Proofs.Tryz.func66 pV
theorem AKT:CO 67 uT:=ok1 Proofs.Tryz.func67 AOA
theorem ABn:CO 68 Qk:=ok1 Proofs.Tryz.func68 AGa
theorem AK4:CO 69 bK:=ok1 Proofs.Tryz.func69 APH
theorem qg:CO 70 LG:=ok1 Proofs.Tryz.func70 AAk
theorem AGs:CO 71 WO:=ok1 Proofs.Tryz.func71 AKR
theorem ALS:CO 72 bQ:=ok1 Proofs.Tryz.func72 AOa
theorem AEW:CO 73 Sr:=ok1 Proofs.Tryz.func73 AGe
theorem AFb:CO 74 Uc:=ok1 Proofs.Tryz.func74 AIq
theorem sW:CO 75 KO:=ok1 Proofs.Tryz.func75 AAt
theorem Xe:CO 76 FH:=ok1 Proofs.Tryz.func76 Yc
theorem AAH:CO 77 N8:=ok1 Proofs.Tryz.func77 AEg
theorem UH:CO 78 D9:=ok1 Proofs.Tryz.func78 Vk
theorem AHn:CO 79 WT:=ok1 Proofs.Tryz.func79 AKg
theorem UD:CO 80 D8:=ok1 Proofs.Tryz.func80 Ve
theorem AMK:CO 81 ig:=ok1 Proofs.Tryz.func81 ARk
theorem mO:CO 82 Jc:=ok1 Proofs.Tryz.func82 uK
theorem AGn:CO 83 WQ:=ok1 Proofs.Tryz.func83 AKe
theorem sQ:CO 84 KT:=ok1 Proofs.Tryz.func84 zB
theorem nK:CO 85 Jy:=ok1 Proofs.Tryz.func85 xE
theorem AAR:CO 86 Ou:=ok1 Proofs.Tryz.func86 AEe
theorem eu:CO 87 IW:=ok1 Proofs.Tryz.func87 lH
theorem AOu:CO 88 qo:=ok1 Proofs.Tryz.func88 AS9
theorem ACB:CO 89 Qd:=ok1 Proofs.Tryz.func89 AFO
theorem qY:CO 90 Ko:=ok1 Proofs.Tryz.func90 AAA
theorem Vl:CO 91 Ea:=ok1 Proofs.Tryz.func91 Xd
theorem ACE:CO 92 XM:=ok1 Proofs.Tryz.func92 AFQ
theorem ABX:CO 93 Wl:=ok1 Proofs.Tryz.func93 AGC
theorem tJ:CO 94 RJ:=ok1 Proofs.Tryz.func94 yP
theorem sG:CO 95 RN:=ok1 Proofs.Tryz.func95 zl
theorem rO:CO 96 Rt:=ok1 Proofs.Tryz.func96 zU
theorem vY:CO 97 TI:=ok1 Proofs.Tryz.func97 ABx
theorem tH:CO 98 RU:=ok1 Proofs.Tryz.func98 AAU
theorem yB:CO 99 Us:=ok1 Proofs.Tryz.func99 ADz
theorem lJ:CO 100 O4:=ok1 Proofs.Tryz.func100 qx
theorem uO:CO 101 Rq:=ok1 Proofs.Tryz.func101 AAL
theorem Vu:CO 102 Gw:=ok1 Proofs.Tryz.func102 Xa
theorem AMA:CO 103 AAm:=ok1 Proofs.Tryz.func103 ARf
theorem ABp:CO 104 XT:=ok1 Proofs.Tryz.func104 AGA
theorem V4:CO 105 G9:=ok1 Proofs.Tryz.func105 Xc
theorem IV:CO 106 CV:=ok1 Proofs.Tryz.func106 Ii
theorem uX:CO 107 Rx:=ok1 Proofs.Tryz.func107 AAK
theorem lZ:CO 108 Oe:=ok1 Proofs.Tryz.func108 tZ
theorem KI:CO 109 DX:=ok1 Proofs.Tryz.func109 LW
theorem AHY:CO 110 eY:=ok1 Proofs.Tryz.func110 ALp
theorem yS:CO 111 U2:=ok1 Proofs.Tryz.func111 ADN
theorem wH:CO 112 TP:=ok1 Proofs.Tryz.func112 ACG
theorem tY:CO 113 LP:=ok1 Proofs.Tryz.func113 y5
theorem zN:CO 114 O6:=ok1 Proofs.Tryz.func114 ADI
theorem iM:CO 115 Ij:=ok1 Proofs.Tryz.func115 qG
theorem wU:CO 116 MR:=ok1 Proofs.Tryz.func116 ACd
theorem yJ:CO 117 Ox:=ok1 Proofs.Tryz.func117 AE1
theorem wI:CO 118 MC:=ok1 Proofs.Tryz.func118 ACg
theorem yx:CO 119 OG:=ok1 Proofs.Tryz.func119 AEi
theorem ABQ:CO 120 XB:=ok1 Proofs.Tryz.func120 AGR
theorem tq:CO 121 RH:=ok1 Proofs.Tryz.func121 AAW
theorem qc:CO 122 Qy:=ok1 Proofs.Tryz.func122 zf
theorem AKv:CO 123 qy:=ok1 Proofs.Tryz.func123 AOX
theorem AED:CO 124 YL:=ok1 Proofs.Tryz.func124 AHM
theorem AJg:CO 125 uG:=ok1 Proofs.Tryz.func125 AOS
theorem AKf:CO 126 ru:=ok1 Proofs.Tryz.func126 AOE
theorem AJv:CO 127 qp:=ok1 Proofs.Tryz.func127 AOG
theorem AKw:CO 128 su:=ok1 Proofs.Tryz.func128 APG
theorem AIr:CO 129 l9:=ok1 Proofs.Tryz.func129 ALz
theorem sF:CO 130 RY:=ok1 Proofs.Tryz.func130 yT
theorem sJ:CO 131 Rw:=ok1 Proofs.Tryz.func131 AAc
theorem qA:CO 132 Pv:=.two Proofs.Tryz.func132 (by kernel_rfl) wJ (by kernel_rfl) JQ (by kernel_rfl)
theorem O7:CO 133 EI:=ok1 Proofs.Tryz.func133 QV
theorem wV:CO 134 TM:=ok1 Proofs.Tryz.func134 AB0
theorem Na:CO 135 D5:=ok1 Proofs.Tryz.func135 Oy
theorem xK:CO 136 UA:=ok1 Proofs.Tryz.func136 ABR
theorem wW:CO 137 Tn:=ok1 Proofs.Tryz.func137 ABw
theorem pW:CO 138 P6:=ok1 Proofs.Tryz.func138 wu
theorem nU:CO 139 QN:=ok1 Proofs.Tryz.func139 wz
theorem TY:CO 140 Fa:=ok1 Proofs.Tryz.func140 Ui
theorem UK:CO 141 GL:=ok1 Proofs.Tryz.func141 Vo
theorem AF0:CO 142 ZU:=ok1 Proofs.Tryz.func142 AJC
theorem AB1:CO 143 WL:=ok1 Proofs.Tryz.func143 AFu
theorem AF2:CO 144 ZY:=ok1 Proofs.Tryz.func144 AJA
theorem ADs:CO 145 Sj:=ok1 Proofs.Tryz.func145 AHA
theorem yV:CO 146 OX:=ok1 Proofs.Tryz.func146 ADi
theorem UN:CO 147 GK:=ok1 Proofs.Tryz.func147 V7
theorem UQ:CO 148 GX:=ok1 Proofs.Tryz.func148 Vf
theorem qZ:CO 149 RX:=ok1 Proofs.Tryz.func149 zh
theorem uY:CO 150 Rl:=ok1 Proofs.Tryz.func150 yZ
theorem V3:CO 151 HY:=ok1 Proofs.Tryz.func151 XY
theorem VF:CO 152 Gq:=ok1 Proofs.Tryz.func152 W9
theorem pY:CO 153 Px:=ok1 Proofs.Tryz.func153 wQ
theorem UR:CO 154 GU:=ok1 Proofs.Tryz.func154 Vx
theorem nO:CO 155 QA:=ok1 Proofs.Tryz.func155 wZ
theorem lD:CO 156 Ob:=ok1 Proofs.Tryz.func156 ql
theorem Ns:CO 157 D6:=ok1 Proofs.Tryz.func157 PL
theorem RV:CO 158 FC:=ok1 Proofs.Tryz.func158 TW
theorem AEo:CO 160 YN:=ok1 Proofs.Tryz.func160 AHa
theorem AGL:CO 161 ZL:=ok1 Proofs.Tryz.func161 AJB
theorem wo:CO 162 Tz:=ok1 Proofs.Tryz.func162 ABK
theorem AAg:CO 163 U7:=ok1 Proofs.Tryz.func163 AEK
theorem lV:CO 165 JX:=ok1 Proofs.Tryz.func165 sH
theorem uV:CO 166 Qs:=.two Proofs.Tryz.func166 (by kernel_rfl) AAN (by kernel_rfl) JQ (by kernel_rfl)
theorem ku:CO 167 Og:=.two Proofs.Tryz.func167 (by kernel_rfl) rZ (by kernel_rfl) JQ (by kernel_rfl)
theorem qR:CO 168 QC:=ok1 Proofs.Tryz.func168 wS
theorem Pn:CO 169 Ec:=ok1 Proofs.Tryz.func169 Ru
theorem UW:CO 170 GN:=ok1 Proofs.Tryz.func170 Vr
theorem PG:CO 171 ET:=ok1 Proofs.Tryz.func171 Qn
theorem Tc:CO 172 Fb:=ok1 Proofs.Tryz.func172 U8
theorem oD:CO 173 Py:=ok1 Proofs.Tryz.func173 wE
theorem iL:CO 174 Nc:=ok1 Proofs.Tryz.func174 o7
theorem nM:CO 175 QE:=ok1 Proofs.Tryz.func175 xR
theorem TK:CO 176 Fg:=ok1 Proofs.Tryz.func176 Un
theorem ACf:CO 177 XU:=ok1 Proofs.Tryz.func177 AFm
theorem AEY:CO 178 YH:=ok1 Proofs.Tryz.func178 AHL
theorem AD4:CO 179 YG:=ok1 Proofs.Tryz.func179 AHR
theorem Vj:CO 180 He:=ok1 Proofs.Tryz.func180 XV
theorem pR:CO 181 Pj:=ok1 Proofs.Tryz.func181 vZ
theorem lQ:CO 182 OQ:=ok1 Proofs.Tryz.func182 uH
theorem mF:CO 183 N9:=ok1 Proofs.Tryz.func183 rW
theorem gY:CO 184 LY:=ok1 Proofs.Tryz.func184 lC
theorem V5:CO 185 G5:=ok1 Proofs.Tryz.func185 Xb
theorem Uu:CO 186 Gs:=ok1 Proofs.Tryz.func186 XP
theorem pF:CO 187 Pm:=ok1 Proofs.Tryz.func187 xO
theorem Qp:CO 188 Ee:=ok1 Proofs.Tryz.func188 SK
theorem ADY:CO 189 YI:=ok1 Proofs.Tryz.func189 AGv
theorem ABs:CO 190 Wu:=ok1 Proofs.Tryz.func190 AFS
theorem lY:CO 191 Oj:=ok1 Proofs.Tryz.func191 tK
theorem qC:CO 192 P8:=ok1 Proofs.Tryz.func192 wY
theorem AAx:CO 193 Uz:=ok1 Proofs.Tryz.func193 AEh
theorem AAl:CO 194 Uj:=ok1 Proofs.Tryz.func194 AEq
theorem ACQ:CO 195 XI:=ok1 Proofs.Tryz.func195 AFk
theorem AFd:CO 196 Zf:=ok1 Proofs.Tryz.func196 AI2
theorem ZR:CO 197 Jq:=ok1 Proofs.Tryz.func197 gX
theorem qQ:CO 198 QS:=ok1 Proofs.Tryz.func198 xG
theorem YD:CO 199 Iw:=ok1 Proofs.Tryz.func199 Zk
theorem ng:CO 200 QD:=.two Proofs.Tryz.func200 (by kernel_rfl) vg (by kernel_rfl) JQ (by kernel_rfl)
theorem TV:CO 201 Fe:=ok1 Proofs.Tryz.func201 U6
theorem SV:CO 202 FN:=ok1 Proofs.Tryz.func202 UJ
theorem ah:CO 203 KG:=ok1 Proofs.Tryz.func203 iU
theorem bg:CO 204 Lc:=ok1 Proofs.Tryz.func204 mP
theorem gG:CO 205 LU:=ok1 Proofs.Tryz.func205 lX
theorem rM:CO 206 Rh:=ok1 Proofs.Tryz.func206 zK
theorem sO:CO 207 RI:=ok1 Proofs.Tryz.func207 AAe
theorem Zb:CO 208 Jt:=ok1 Proofs.Tryz.func208 cO
theorem rG:CO 209 RF:=ok1 Proofs.Tryz.func209 zS
theorem uF:CO 210 Qz:=ok1 Proofs.Tryz.func210 yK
theorem wL:CO 211 TQ:=ok1 Proofs.Tryz.func211 ABz
theorem qF:CO 212 Pg:=ok1 Proofs.Tryz.func212 xP
theorem Lr:CO 213 Dy:=ok1 Proofs.Tryz.func213 Nr
theorem ZB:CO 214 JL:=ok1 Proofs.Tryz.func214 bM
theorem KR:CO 215 Dj:=ok1 Proofs.Tryz.func215 Lp
theorem YC:CO 216 Iy:=ok1 Proofs.Tryz.func216 Za
theorem UF:CO 217 GV:=ok1 Proofs.Tryz.func217 V6
theorem lK:CO 218 OI:=ok1 Proofs.Tryz.func218 tV
theorem rD:CO 219 Q9:=ok1 Proofs.Tryz.func219 yu
theorem lS:CO 220 O5:=ok1 Proofs.Tryz.func220 uD
theorem rX:CO 221 Q5:=ok1 Proofs.Tryz.func221 AAG
theorem all_good:T.All (λp d=>ADl Go.Proofs.Tryz.prog F p.key d) F:=(.n0 (.n0 (.n1 xU (.n1 AFB (.n1 AD5 (.n1 AHX (.n1 AOj (.n1 AJv .e .e) (.n1 lY .e .e)) (.n1 sG .e .e)) (.n1 mW (.n1 AHn (.n1 AB1 .e .e) (.n1 sO .e .e)) (.n1 yS (.n1 nM .e .e) .e))) (.n1 uN (.n1 wX (.n1 AGs (.n1 Na .e .e) (.n1 YD .e .e)) (.n1 AMA (.n1 ku .e .e) .e)) (.n1 AAa (.n1 eu (.n1 V3 .e .e) (.n1 KR .e .e)) (.n1 yx (.n1 mF .e .e) .e)))) (.n1 yc (.n1 AAQ (.n1 xA (.n1 AKT (.n1 sJ .e .e) (.n1 ACQ .e .e)) (.n1 yB (.n1 AAg .e .e) .e)) (.n1 AGD (.n1 AGn (.n1 UN .e .e) (.n1 wL .e .e)) (.n1 iM (.n1 AD4 .e .e) .e))) (.n1 ACH (.n1 xI (.n1 sW (.n1 nU .e .e) (.n1 ah .e .e)) (.n1 uX (.n1 PG .e .e) .e)) (.n1 zM (.n1 Vl (.n1 nO .e .e) (.n1 rD .e .e)) (.n1 AKv (.n1 pF .e .e) .e))))) (.n1 ADS (.n1 AN9 (.n1 AMJ (.n1 AEm (.n1 Qm (.n1 AIr .e .e) (.n1 AAx .e .e)) (.n1 vY (.n1 AGL .e .e) .e)) (.n1 kY (.n1 AMK (.n1 ADs .e .e) (.n1 rG .e .e)) (.n1 tY (.n1 ACf .e .e) .e))) (.n1 AME (.n1 AIw (.n1 AEW (.n1 wW .e .e) (.n1 TV .e .e)) (.n1 V4 (.n1 Pn .e .e) .e)) (.n1 yX (.n1 ACB (.n1 pY .e .e) (.n1 UF .e .e)) (.n1 tq (.n1 V5 .e .e) .e)))) (.n1 ACI (.n1 zD (.n1 zo (.n1 AK4 (.n1 O7 .e .e) (.n1 ZR .e .e)) (.n1 uO (.n1 lV .e .e) .e)) (.n1 Qo (.n1 nK (.n1 qZ .e .e) (.n1 Lr .e .e)) (.n1 yJ (.n1 pR .e .e) .e))) (.n1 AGw (.n1 AQ6 (.n1 AAH (.n1 UK .e .e) (.n1 gG .e .e)) (.n1 KI (.n1 oD .e .e) .e)) (.n1 qE (.n1 ABX (.n1 Ns .e .e) (.n1 rX .e .e)) (.n1 AJg (.n1 ADY .e .e) .e)))))) (.n0 (.n1 ABV (.n1 vX (.n1 xM (.n1 zF (.n1 ACS (.n1 AKw .e .e) (.n1 qC .e .e)) (.n1 rO (.n1 AEo .e .e) .e)) (.n1 nY (.n1 UD (.n1 AF2 .e .e) (.n1 Zb .e .e)) (.n1 wH (.n1 TK .e .e) .e))) (.n1 O8 (.n1 Uk (.n1 ALS (.n1 xK .e .e) (.n1 ng .e .e)) (.n1 ABp (.n1 qR .e .e) .e)) (.n1 ABg (.n1 AOu (.n1 VF .e .e) (.n1 YC .e .e)) (.n1 ABQ (.n1 gY .e .e) .e)))) (.n1 xg (.n1 xw (.n1 ABf (.n1 ABn (.n1 qA .e .e) (.n1 AFd .e .e)) (.n1 lJ .e .e)) (.n1 vw (.n1 sQ (.n1 UQ .e .e) (.n1 qF .e .e)) (.n1 wU (.n1 Vj .e .e) .e))) (.n1 Y5 (.n1 AEO (.n1 Xe (.n1 TY .e .e) (.n1 bg .e .e)) (.n1 lZ (.n1 Tc .e .e) .e)) (.n1 APD (.n1 ACE (.n1 lD .e .e) (.n1 lS .e .e)) (.n1 AED (.n1 Qp .e .e) .e))))) (.n1 ALk (.n1 AP2 (.n1 xk (.n1 zV (.n1 iK (.n1 sF .e .e) (.n1 AAl .e .e)) (.n1 tH (.n1 wo .e .e) .e)) (.n1 iO (.n1 mO (.n1 yV .e .e) (.n1 uF .e .e)) (.n1 zN (.n1 AEY .e .e) .e))) (.n1 wK (.n1 x9 (.n1 AFb (.n1 pW .e .e) (.n1 SV .e .e)) (.n1 IV (.n1 UW .e .e) .e)) (.n1 ABM (.n1 qY (.n1 UR .e .e) (.n1 lK .e .e)) (.n1 qc (.n1 Uu .e .e) .e)))) (.n1 yD (.n1 pG (.n1 yF (.n1 qg (.n1 wV .e .e) (.n1 qQ .e .e)) (.n1 Vu (.n1 uV .e .e) .e)) (.n1 y8 (.n1 AAR (.n1 uY .e .e) (.n1 ZB .e .e)) (.n1 wI (.n1 lQ .e .e) .e))) (.n1 AAq (.n1 zA (.n1 UH (.n1 AF0 .e .e) (.n1 rM .e .e)) (.n1 AHY (.n1 iL .e .e) .e)) (.n1 AAp (.n1 tJ (.n1 RV .e .e) .e) (.n1 AKf (.n1 ABs .e .e) .e)))))))
theorem AdI:AKK Go.Proofs.Tryz.prog F:=.AcO (by kernel_rfl) all_good
end Go.RL
