/- Part of a proof: texts LQNm LQTr LQOk of the engine and what is proved with it; nothing is assumed. -/
import Derived.Test.YtibbhhkcjjeclaaDoorEngA
import Derived.Test.YtibbhhkcjjeclaaDoorEngF
import Derived.Test.YtibbhhkcjjeclaaDoorProg
set_option linter.unusedVariables false
set_option linter.unusedSimpArgs false
noncomputable section
namespace Go.RL
open Go.CS
def q0:P2:=.h
def q1:P2:=.z q0
def q2:P2:=.o q0
def q3:P2:=.z q1
def q4:P2:=.o q1
def q5:P2:=.z q2
def q6:P2:=.o q2
def q7:P2:=.z q3
def q8:P2:=.o q3
def q9:P2:=.z q4
def q10:P2:=.o q4
def q11:P2:=.z q5
def q12:P2:=.o q5
def q13:P2:=.z q6
def q14:P2:=.o q6
def q15:P2:=.z q7
def q16:P2:=.o q7
def q17:P2:=.z q8
def q18:P2:=.o q8
def q19:P2:=.z q9
def q20:P2:=.o q9
def q21:P2:=.z q10
def q22:P2:=.o q10
def q23:P2:=.z q11
def q24:P2:=.o q11
def q25:P2:=.z q12
def q26:P2:=.o q12
def q27:P2:=.z q13
def q28:P2:=.o q13
def q29:P2:=.z q14
def q30:P2:=.o q14
def q31:P2:=.z q15
def q32:P2:=.o q15
def q33:P2:=.z q16
def q34:P2:=.o q16
def q35:P2:=.z q17
def q36:P2:=.o q17
def q37:P2:=.z q18
def q38:P2:=.o q18
def q39:P2:=.z q19
def q40:P2:=.o q19
def q41:P2:=.z q20
def q42:P2:=.o q20
def q43:P2:=.z q21
def q44:P2:=.o q21
def q45:P2:=.z q22
def q46:P2:=.o q22
def q47:P2:=.z q23
def q48:P2:=.o q23
def q49:P2:=.z q24
def q50:P2:=.o q24
def q51:P2:=.z q25
def q52:P2:=.o q25
def q53:P2:=.z q26
def q54:P2:=.o q26
def q55:P2:=.z q27
def q56:P2:=.o q27
def q57:P2:=.z q28
def q60:P2:=.o q29
def q61:P2:=.z q30
def q62:P2:=.o q30
def q63:P2:=.z q31
def q64:P2:=.o q31
def q65:P2:=.z q32
def q66:P2:=.o q32
def q67:P2:=.z q33
def q68:P2:=.o q33
def q69:P2:=.z q34
def q72:P2:=.o q35
def q73:P2:=.z q36
def q74:P2:=.o q36
def q75:P2:=.z q37
def q76:P2:=.o q37
def q77:P2:=.z q38
def q78:P2:=.o q38
def q80:P2:=.o q39
def q83:P2:=.z q41
def q84:P2:=.o q41
def q85:P2:=.z q42
def q86:P2:=.o q42
def q87:P2:=.z q43
def q92:P2:=.o q45
def q93:P2:=.z q46
def q94:P2:=.o q46
def q96:P2:=.o q47
def q97:P2:=.z q48
def q98:P2:=.o q48
def ATN:P2:=.z q54
def ASY:P2:=.o q54
def ATf:P2:=.z q55
def AUx:P2:=.o q55
def AUf:P2:=.z q56
def AVC:P2:=.o q56
def AUK:P2:=.o q61
def AVA:P2:=.z q64
def AU1:P2:=.o q64
def AT2:P2:=.z q65
def AU3:P2:=.z q69
def AUk:P2:=.o q76
def AUL:P2:=.z q78
def AUU:P2:=.z q87
def AUb:P2:=.o AUL
def AUt:P2:=.z AUU
abbrev fD:Nat:=6
abbrev gU:Nat:=13
abbrev jM:Nat:=14
abbrev Yy:Nat:=17
abbrev YI:Nat:=18
abbrev Ee:Nat:=19
abbrev Y5:Nat:=21
abbrev Vg:Nat:=25
abbrev Ub:Nat:=26
abbrev Yz:Nat:=27
abbrev Jk:Nat:=29
abbrev Le:Nat:=31
abbrev Y1:Nat:=32
abbrev fM:Nat:=33
abbrev jO:Nat:=34
abbrev Ui:Nat:=35
abbrev fK:Nat:=37
abbrev YX:Nat:=38
abbrev AAR:Nat:=39
abbrev YL:Nat:=40
abbrev ZJ:Nat:=41
abbrev FP:Nat:=42
abbrev Sr:Nat:=43
abbrev Sj:Nat:=44
abbrev Wy:Nat:=45
abbrev Eb:Nat:=46
abbrev Js:Nat:=47
abbrev QG:Nat:=49
abbrev FH:Nat:=50
abbrev FU:Nat:=51
abbrev WH:Nat:=52
abbrev XQ:Nat:=53
abbrev Ws:Nat:=56
abbrev Wq:Nat:=57
abbrev Uk:Nat:=58
abbrev Xt:Nat:=59
abbrev aI:Nat:=60
abbrev ZO:Nat:=61
abbrev uF:Nat:=62
abbrev ZL:Nat:=63
abbrev LP:Nat:=64
abbrev Oi:Nat:=65
abbrev Qd:Nat:=66
abbrev Bf:Nat:=67
abbrev ET:Nat:=70
abbrev QV:Nat:=71
abbrev U8:Nat:=72
abbrev Em:Nat:=73
abbrev Pn:Nat:=74
abbrev Df:Nat:=75
abbrev BU:Nat:=76
abbrev Ua:Nat:=77
abbrev Ap:Nat:=78
abbrev dS:Nat:=79
abbrev BR:Nat:=80
abbrev D8:Nat:=81
abbrev D9:Nat:=82
abbrev Oo:Nat:=83
abbrev EZ:Nat:=90
abbrev RI:Nat:=91
abbrev Vk:Nat:=92
abbrev xk:Nat:=93
abbrev Qy:Nat:=94
abbrev Zu:Nat:=95
abbrev GL:Nat:=96
abbrev A8:Nat:=97
abbrev EP:Nat:=98
abbrev BA:Nat:=99
abbrev S9:Nat:=100
abbrev TK:Nat:=101
abbrev NG:Nat:=102
abbrev OC:Nat:=103
abbrev JW:Nat:=108
abbrev XD:Nat:=109
abbrev U2:Nat:=110
end Go.RL
namespace Go.RL
open Go.CS
set_option maxRecDepth 100000
abbrev tr(l:List (Nat×Nat))(d:Bool)(o:AId)(g:Nat)(f:Func):Option AF:=trF Go.Proofs.Tryd.prog (inR l) d o g f
abbrev Uy:=tr [(10,10),(12,13),(15,20),(22,23),(28,31),(36,41),(78,82)] false [(16,Rq 36)] 0 Proofs.Tryd.f6
def Iq:=CJ Uy
theorem Z9:Uy=some Iq:=Aq (by kernel_rfl)
abbrev fU:=tr [(9,12),(14,17)] false [] 0 Proofs.Tryd.f13
def Qq:=CJ fU
theorem vM:fU=some Qq:=Aq (by kernel_rfl)
abbrev yF:=tr [(13,14),(16,18),(23,24),(37,39),(41,41),(62,72),(77,78),(87,87),(89,93),(95,96)] false [(8,Rq 14),(13,Rq 9),(14,Rq 13),(21,Rq 9)] 0 Proofs.Tryd.f14
def Xi:=CJ yF
theorem AC0:yF=some Xi:=Aq (by kernel_rfl)
abbrev ZA:=tr [(11,11),(28,52),(54,55)] false [(1,Rq 12)] 0 Proofs.Tryd.f17
def Oa:=CJ ZA
theorem qY:ZA=some Oa:=Aq (by kernel_rfl)
abbrev YZ:=tr [(3,3),(5,9)] false [] 0 Proofs.Tryd.f18
def MG:=CJ YZ
theorem mW:YZ=some MG:=Aq (by kernel_rfl)
abbrev YS:=tr [(9,9),(11,22),(24,24),(31,31)] false [(6,[(0,.plain),(1,.plain),(2,.plain),(4,.plain),(5,.plain),(3,.plain),(6,.wr),(7,.wr)])] 0 Proofs.Tryd.f19
def MQ:=CJ YS
theorem l7:YS=some MQ:=Aq (by kernel_rfl)
abbrev ZV:=tr [(8,8),(10,21)] false [] 0 Proofs.Tryd.f21
def Nu:=CJ ZV
theorem oM:ZV=some Nu:=Aq (by kernel_rfl)
abbrev aX:=tr [(3,25)] false [] 0 Proofs.Tryd.f25
def Py:=CJ aX
theorem sH:aX=some Py:=Aq (by kernel_rfl)
abbrev jQ:=tr [(6,6),(11,11),(16,25),(30,32),(43,45),(47,54)] false [(8,Rq 11)] 0 Proofs.Tryd.f26
def Ru:=CJ jQ
theorem yR:jQ=some Ru:=Aq (by kernel_rfl)
abbrev Y0:=tr [(28,48),(50,59),(64,86),(88,95),(99,113),(115,122)] false [(1,Rq 16)] 0 Proofs.Tryd.f27
def N7:=CJ Y0
theorem oO:Y0=some N7:=Aq (by kernel_rfl)
abbrev ACF:=tr [(1,1)] false [] 0 Proofs.Tryd.f29
def eP:=CJ ACF
theorem AHJ:ACF=some eP:=Aq (by kernel_rfl)
abbrev nY:=tr [(5,7)] false [] 0 Proofs.Tryd.f31
def UH:=CJ nY
theorem AAu:nY=some UH:=Aq (by kernel_rfl)
abbrev Y8:=tr [(5,10),(12,15)] false [] 0 Proofs.Tryd.f32
def Oe:=CJ Y8
theorem oV:Y8=some Oe:=Aq (by kernel_rfl)
abbrev fJ:=tr [(7,37)] false [] 0 Proofs.Tryd.f33
def Qg:=CJ fJ
theorem vG:fJ=some Qg:=Aq (by kernel_rfl)
abbrev kW:=tr [(3,4),(6,9)] false [] 0 Proofs.Tryd.f34
def Rw:=CJ kW
theorem yG:kW=some Rw:=Aq (by kernel_rfl)
abbrev jV:=tr [(3,8)] false [] 0 Proofs.Tryd.f35
def Ry:=CJ jV
theorem yP:jV=some Ry:=Aq (by kernel_rfl)
abbrev gQ:=tr [(13,56),(58,59),(64,67),(69,71),(76,80),(82,84),(89,104),(106,108),(113,125),(127,128),(133,137),(139,139)] false [] 0 Proofs.Tryd.f37
def Qo:=CJ gQ
theorem wH:gQ=some Qo:=Aq (by kernel_rfl)
abbrev X9:=tr [(9,27),(29,29),(34,47),(49,80),(82,82),(87,88),(95,96)] false [(15,Rq 6)] 0 Proofs.Tryd.f38
def MO:=CJ X9
theorem nH:X9=some MO:=Aq (by kernel_rfl)
abbrev AAn:=tr [(6,9),(14,15),(23,24)] false [(5,Rq 8)] 0 Proofs.Tryd.f39
def ZM:=CJ AAn
theorem AFO:AAn=some ZM:=Aq (by kernel_rfl)
abbrev YE:=tr [(10,10),(13,14),(18,18),(21,31),(33,49),(51,59),(61,62),(64,66),(71,77),(79,88),(90,91),(96,105),(107,127),(129,129)] false [] 0 Proofs.Tryd.f40
def MR:=CJ YE
theorem nD:YE=some MR:=Aq (by kernel_rfl)
abbrev Y3:=tr [(14,14),(16,16),(21,22),(32,32),(41,41),(46,47),(62,69),(71,72),(77,85),(87,87)] false [(4,Rq 9),(7,Rq 8),(12,opp [0,1,2,3,4,5,6,7,8,14,9,10,11,12,13,15,16,17])] 0 Proofs.Tryd.f41
def OY:=CJ Y3
theorem qP:Y3=some OY:=Aq (by kernel_rfl)
abbrev ZQ:=tr [(8,8),(10,26)] false [] 0 Proofs.Tryd.f42
def OV:=CJ ZQ
theorem qj:ZQ=some OV:=Aq (by kernel_rfl)
abbrev YU:=tr [(10,10),(14,14),(17,22),(27,40),(44,45)] false [(8,Rq 5)] 0 Proofs.Tryd.f43
def ML:=CJ YU
theorem mJ:YU=some ML:=Aq (by kernel_rfl)
abbrev YP:=tr [(8,8),(13,17),(19,21)] false [] 0 Proofs.Tryd.f44
def MN:=CJ YP
theorem nN:YP=some MN:=Aq (by kernel_rfl)
abbrev gG:=tr [(5,30)] false [] 0 Proofs.Tryd.f45
def Qr:=CJ gG
theorem wC:gG=some Qr:=Aq (by kernel_rfl)
abbrev L8:=tr [(5,8)] false [] 0 Proofs.Tryd.f46
def EX:=CJ L8
theorem UO:L8=some EX:=Aq (by kernel_rfl)
abbrev YK:=tr [(7,7),(13,16),(18,20),(22,29),(31,31)] false [] 0 Proofs.Tryd.f47
def MF:=CJ YK
theorem lq:YK=some MF:=Aq (by kernel_rfl)
abbrev V6:=tr [(8,19),(41,58),(86,106),(108,123),(125,140),(142,146)] false [(4,Rq 11),(6,Rq 10),(10,Rq 13),(11,Rq 15)] 0 Proofs.Tryd.f49
def J9:=CJ V6
theorem iV:V6=some J9:=Aq (by kernel_rfl)
abbrev AFE:=tr [(3,4)] false [] 0 Proofs.Tryd.f50
def lW:=CJ AFE
theorem AIv:AFE=some lW:=Aq (by kernel_rfl)
abbrev U5:=tr [(15,21),(23,35),(37,55),(57,60),(64,64),(81,81),(83,85),(111,112),(116,116),(158,158)] false [(11,opp [0,1,2,3,4,5,6,7,8,9,10,11,16,12,13,14,15,17,18]),(14,Rq 19),(15,Rq 8),(20,opp [0,1,2,3,4,5,6,7,8,9,10,11,16,12,13,14,15,17,18]),(21,Rq 19),(22,Rq 8)] 0 Proofs.Tryd.f51
def Je:=CJ U5
theorem dF:U5=some Je:=Aq (by kernel_rfl)
abbrev WB:=tr [(19,53),(56,59),(61,64),(66,69),(71,77),(79,88),(90,90),(98,111),(113,123),(125,162),(164,169),(171,177),(179,185),(187,187),(217,217),(247,247),(262,269),(271,283),(285,297),(299,301),(310,315),(317,320),(329,333),(335,337),(352,353),(364,369),(371,379),(381,392),(394,403),(405,408),(410,413),(415,417),(419,429),(431,437),(439,451),(453,458)] false [(22,Rq 7),(50,Rq 14),(51,Rq 14),(53,Rq 14),(54,Rq 14),(56,Rq 13),(70,Rq 8),(76,Rq 8),(80,Rq 13),(83,Rq 12)] 0 Proofs.Tryd.f52
def KI:=CJ WB
theorem iG:WB=some KI:=Aq (by kernel_rfl)
abbrev XB:=tr [(12,12),(16,16),(19,24),(29,48),(52,53)] false [(8,Rq 5)] 0 Proofs.Tryd.f53
def Ky:=CJ XB
theorem jU:XB=some Ky:=Aq (by kernel_rfl)
abbrev gX:=tr [(3,8)] false [] 0 Proofs.Tryd.f56
def Ql:=CJ gX
theorem vK:gX=some Ql:=Aq (by kernel_rfl)
abbrev gV:=tr [(9,29),(31,31),(36,47),(49,50),(55,72),(74,74),(79,83),(85,86)] false [] 0 Proofs.Tryd.f57
def Qh:=CJ gV
theorem vO:gV=some Qh:=Aq (by kernel_rfl)
abbrev ZT:=tr [(8,47),(49,49),(54,70),(72,75),(80,107),(109,111)] false [] 0 Proofs.Tryd.f58
def OU:=CJ ZT
theorem qc:ZT=some OU:=Aq (by kernel_rfl)
abbrev Xv:=tr [(13,27),(32,34),(36,37),(42,45),(47,48),(53,56),(58,59),(64,88),(90,91),(96,106),(108,108)] false [] 0 Proofs.Tryd.f59
def MH:=CJ Xv
theorem mF:Xv=some MH:=Aq (by kernel_rfl)
abbrev bT:=tr [(6,8),(10,13),(15,17)] false [(6,Rq 12)] 0 Proofs.Tryd.f60
def QA:=CJ bT
theorem uN:bT=some QA:=Aq (by kernel_rfl)
abbrev ZI:=tr [(5,5)] false [] 0 Proofs.Tryd.f61
def OH:=CJ ZI
theorem oW:ZI=some OH:=Aq (by kernel_rfl)
abbrev rM:=tr [(5,6),(10,10),(29,31),(35,35),(54,54)] false [(4,Rq 18),(10,Rq 18)] 0 Proofs.Tryd.f62
def Vm:=CJ rM
theorem ABX:rM=some Vm:=Aq (by kernel_rfl)
abbrev Yw:=tr [(8,8),(13,17),(19,22)] false [] 0 Proofs.Tryd.f63
def OW:=CJ Yw
theorem o8:Yw=some OW:=Aq (by kernel_rfl)
abbrev Kz:=tr [(6,9),(11,11),(15,15),(25,25)] false [(6,Rq 9)] 0 Proofs.Tryd.f64
def EI:=CJ Kz
theorem Ti:Kz=some EI:=Aq (by kernel_rfl)
abbrev Oq:=tr [(6,6),(10,15),(17,18)] false [] 0 Proofs.Tryd.f65
def FT:=CJ Oq
theorem Vu:Oq=some FT:=Aq (by kernel_rfl)
abbrev wY:=tr [(3,22)] false [] 0 Proofs.Tryd.f66
def Xc:=CJ wY
theorem AC9:wY=some Xc:=Aq (by kernel_rfl)
abbrev bZ:=tr [(3,22)] false [] 0 Proofs.Tryd.f67
def P6:=CJ bZ
theorem sD:bZ=some P6:=Aq (by kernel_rfl)
abbrev VF:=tr [(18,24),(26,33),(35,36),(62,62),(67,69),(86,86),(107,108),(113,115),(151,151),(153,162)] false [(6,Rq 18),(8,Rq 9),(14,opp [0,1,2,3,4,5,6,7,8,9,10,11,16,12,13,14,15,17,18]),(17,[(0,.plain),(1,.plain),(2,.plain),(3,.plain),(4,.plain),(5,.plain),(6,.plain),(7,.plain),(8,.plain),(9,.plain),(10,.plain),(11,.plain),(12,.wr)]),(18,Rq 8),(23,opp [0,1,2,3,4,5,6,7,8,9,10,11,16,12,13,14,15,17,18]),(24,[(0,.plain),(1,.plain),(2,.plain),(3,.plain),(4,.plain),(5,.plain),(6,.plain),(7,.plain),(8,.plain),(9,.plain),(10,.plain),(11,.plain),(12,.wr)]),(25,Rq 8)] 0 Proofs.Tryd.f70
def JZ:=CJ VF
theorem dn:VF=some JZ:=Aq (by kernel_rfl)
abbrev Vo:=tr [] false [(1,opp [0,1,3,4,2,5,6,7])] 0 Proofs.Tryd.f71
def KF:=CJ Vo
theorem iC:Vo=some KF:=Aq (by kernel_rfl)
abbrev VE:=tr [(12,12),(15,15),(17,19),(22,26),(28,32),(34,38),(40,40),(65,70),(79,79),(81,97),(99,112),(114,125),(127,138),(140,186),(188,193),(195,200),(202,208),(210,219),(221,225)] false [(10,Rq 24),(13,Rq 9)] 0 Proofs.Tryd.f72
def Jf:=CJ VE
theorem fC:VE=some Jf:=Aq (by kernel_rfl)
abbrev UY:=tr [(7,13),(15,16)] false [] 0 Proofs.Tryd.f73
def Ip:=CJ UY
theorem aG:UY=some Ip:=Aq (by kernel_rfl)
abbrev VJ:=tr [(14,15),(17,24),(26,33),(35,40),(59,60),(72,75)] false [(10,Rq 15),(14,Rq 11)] 0 Proofs.Tryd.f74
def Jb:=CJ VJ
theorem fG:VJ=some Jb:=Aq (by kernel_rfl)
abbrev UF:=tr [(4,5),(7,22)] false [] 0 Proofs.Tryd.f75
def Iu:=CJ UF
theorem aU:UF=some Iu:=Aq (by kernel_rfl)
abbrev Uj:=tr [(16,18)] false [(1,opp [0,1,2,3,4,5,6,7,9,8,10,11])] 0 Proofs.Tryd.f76
def Iz:=CJ Uj
theorem bJ:Uj=some Iz:=Aq (by kernel_rfl)
abbrev Y2:=tr [(8,10),(15,30)] false [(3,Rq 4)] 0 Proofs.Tryd.f77
def OL:=CJ Y2
theorem pW:Y2=some OL:=Aq (by kernel_rfl)
abbrev Ug:=tr [(4,7),(16,18)] false [(2,Rq 8)] 0 Proofs.Tryd.f78
def Io:=CJ Ug
theorem aC:Ug=some Io:=Aq (by kernel_rfl)
abbrev zF:=tr [(1,1)] false [] 0 Proofs.Tryd.f79
def ZP:=CJ zF
theorem AFR:zF=some ZP:=Aq (by kernel_rfl)
abbrev UC:=tr [(14,15),(17,20)] false [(1,Rq 12)] 0 Proofs.Tryd.f80
def Ik:=CJ UC
theorem aV:UC=some Ik:=Aq (by kernel_rfl)
abbrev ny:=tr [(1,1)] false [] 0 Proofs.Tryd.f81
def Uc:=CJ ny
theorem AA5:ny=some Uc:=Aq (by kernel_rfl)
abbrev ZW:=tr [] false [(1,Rq 12)] 0 Proofs.Tryd.f82
def N8:=CJ ZW
theorem pz:ZW=some N8:=Aq (by kernel_rfl)
abbrev gJ:=tr [(3,5)] false [] 0 Proofs.Tryd.f83
def Qj:=CJ gJ
theorem vY:gJ=some Qj:=Aq (by kernel_rfl)
abbrev IK:=tr [(5,8)] false [] 0 Proofs.Tryd.f90
def DN:=CJ IK
theorem Pj:IK=some DN:=Aq (by kernel_rfl)
abbrev XP:=tr [(3,5)] false [] 0 Proofs.Tryd.f91
def Kv:=CJ XP
theorem je:XP=some Kv:=Aq (by kernel_rfl)
abbrev oI:=tr [(3,10)] false [] 0 Proofs.Tryd.f92
def UG:=CJ oI
theorem AAQ:oI=some UG:=Aq (by kernel_rfl)
abbrev yE:=tr [(3,6)] false [] 0 Proofs.Tryd.f93
def Xg:=CJ yE
theorem ADA:yE=some Xg:=Aq (by kernel_rfl)
abbrev XV:=tr [(7,11),(13,17),(19,23),(25,29),(31,35),(37,39),(41,44)] false [] 0 Proofs.Tryd.f94
def LY:=CJ XV
theorem kS:XV=some LY:=Aq (by kernel_rfl)
abbrev nT:=tr [(10,13),(22,22),(31,31),(33,38),(48,48),(50,52)] false [(3,Rq 8),(5,Rq 8),(8,Rq 10)] 0 Proofs.Tryd.f95
def Ul:=CJ nT
theorem zW:nT=some Ul:=Aq (by kernel_rfl)
abbrev LG:=tr [(3,3),(5,7)] false [] 0 Proofs.Tryd.f96
def EN:=CJ LG
theorem Td:LG=some EN:=Aq (by kernel_rfl)
abbrev VK:=tr [] false [(1,Rq 11),(2,Rq 12)] 0 Proofs.Tryd.f97
def Jg:=CJ VK
theorem dA:VK=some Jg:=Aq (by kernel_rfl)
abbrev XL:=tr [(6,12),(14,31)] false [] 0 Proofs.Tryd.f98
def LW:=CJ XL
theorem jd:XL=some LW:=Aq (by kernel_rfl)
abbrev WG:=tr [(9,12),(14,21),(46,54)] false [(5,Rq 24)] 0 Proofs.Tryd.f99
def KD:=CJ WG
theorem iD:WG=some KD:=Aq (by kernel_rfl)
abbrev TM:=tr [(13,13),(16,16),(32,32),(67,76),(106,106),(117,131),(133,133),(155,156),(167,172),(174,194),(196,205)] false [(3,Rq 15),(5,Rq 34),(11,Rq 12),(12,Rq 17),(14,Rq 12),(17,Rq 12),(18,opp [0,1,2,3,5,6,7,4,8,9,10]),(21,Rq 12)] 0 Proofs.Tryd.f100
def IQ:=CJ TM
theorem ZX:TM=some IQ:=Aq (by kernel_rfl)
abbrev TL:=tr [(3,13)] false [] 0 Proofs.Tryd.f101
def IX:=CJ TL
theorem Zy:TL=some IX:=Aq (by kernel_rfl)
abbrev TR:=tr [(3,5)] false [] 0 Proofs.Tryd.f102
def IV:=CJ TR
theorem Zb:TR=some IV:=Aq (by kernel_rfl)
abbrev Xy:=tr [(8,17)] false [] 0 Proofs.Tryd.f103
def MK:=CJ Xy
theorem nG:Xy=some MK:=Aq (by kernel_rfl)
abbrev JH:=tr [(6,6),(10,15),(17,18)] false [] 0 Proofs.Tryd.f108
def Du:=CJ JH
theorem Qm:JH=some Du:=Aq (by kernel_rfl)
abbrev XY:=tr [(8,8),(11,16),(21,25),(27,28)] false [] 0 Proofs.Tryd.f109
def Ko:=CJ XY
theorem jG:XY=some Ko:=Aq (by kernel_rfl)
abbrev UD:=tr [(10,11),(13,17),(44,45)] false [(3,Rq 17),(4,Rq 12),(6,opp [0,1,2,3,4,5,7,6,8,9,10,11,12]),(7,Rq 18)] 0 Proofs.Tryd.f110
def Iy:=CJ UD
theorem aP:UD=some Iy:=Aq (by kernel_rfl)
def F:T AF:=(.n none (.n none (.n none (.n none (.n none (.n (some UH) (.n (some OW) .e .e) (.n (some Ul) .e .e)) (.n (some MF) (.n (some ZP) .e .e) .e)) (.n none (.n (some ZM) (.n (some KF) .e .e) (.n (some MK) .e .e)) .e)) (.n none (.n (some MQ) (.n (some Ry) (.n (some P6) .e .e) (.n (some KD) .e .e)) (.n (some Je) (.n (some Qj) .e .e) .e)) (.n (some N7) (.n (some ML) (.n (some Iu) .e .e) .e) (.n (some MH) (.n (some Kv) .e .e) .e)))) (.n none (.n none (.n (some Oa) (.n (some Qg) (.n (some FT) .e .e) (.n (some Jg) .e .e)) (.n (some J9) (.n (some Uc) .e .e) .e)) (.n (some Py) (.n (some OY) (.n (some Ip) .e .e) .e) (.n (some Qh) .e .e))) (.n (some Qq) (.n (some Nu) (.n (some Qo) .e (.n (some IX) .e .e)) (.n (some Ky) .e .e)) (.n (some eP) (.n (some Qr) (.n (some OL) .e .e) (.n (some Ko) .e .e)) (.n (some OH) (.n (some Xg) .e .e) .e))))) (.n none (.n none (.n none (.n none (.n (some Oe) (.n (some EI) .e .e) (.n (some EN) .e .e)) (.n none (.n (some Ik) .e .e) .e)) (.n none (.n (some MR) (.n (some Jf) .e .e) .e) (.n (some Ql) .e .e))) (.n none (.n none (.n none .e (.n (some IQ) .e .e)) (.n (some KI) .e .e)) (.n none (.n (some MN) (.n (some Iz) .e .e) (.n (some Du) .e .e)) (.n (some QA) (.n (some UG) .e .e) .e)))) (.n (some Iq) (.n none (.n (some MG) (.n (some Rw) (.n (some Xc) .e .e) (.n (some LW) .e .e)) (.n (some lW) (.n (some N8) .e .e) .e)) (.n (some Ru) (.n (some OV) (.n (some Jb) .e .e) .e) (.n (some OU) (.n (some DN) .e .e) .e))) (.n (some Xi) (.n none (.n (some MO) (.n (some JZ) .e .e) (.n (some IV) .e .e)) .e) (.n none (.n (some EX) (.n (some Io) .e .e) (.n (some Iy) .e .e)) (.n (some Vm) (.n (some LY) .e .e) .e))))))
theorem Nk:T.get F 6=some Iq:=by kernel_rfl
theorem VL:T.get F 13=some Qq:=by kernel_rfl
theorem fE:T.get F 14=some Xi:=by kernel_rfl
theorem SB:T.get F 17=some Oa:=by kernel_rfl
theorem Q5:T.get F 18=some MG:=by kernel_rfl
theorem Q8:T.get F 19=some MQ:=by kernel_rfl
theorem SC:T.get F 21=some Nu:=by kernel_rfl
theorem uD:T.get F 25=some Py:=by kernel_rfl
theorem Wj:T.get F 26=some Ru:=by kernel_rfl
theorem SS:T.get F 27=some N7:=by kernel_rfl
theorem qM:T.get F 29=some eP:=by kernel_rfl
theorem AAa:T.get F 31=some UH:=by kernel_rfl
theorem oU:T.get F 32=some Oe:=by kernel_rfl
theorem uj:T.get F 33=some Qg:=by kernel_rfl
theorem W9:T.get F 34=some Rw:=by kernel_rfl
theorem WX:T.get F 35=some Ry:=by kernel_rfl
theorem Vd:T.get F 37=some Qo:=by kernel_rfl
theorem Qu:T.get F 38=some MO:=by kernel_rfl
theorem jJ:T.get F 39=some ZM:=by kernel_rfl
theorem RG:T.get F 40=some MR:=by kernel_rfl
theorem SY:T.get F 41=some OY:=by kernel_rfl
theorem SX:T.get F 42=some OV:=by kernel_rfl
theorem Qx:T.get F 43=some ML:=by kernel_rfl
theorem RF:T.get F 44=some MN:=by kernel_rfl
theorem VO:T.get F 45=some Qr:=by kernel_rfl
theorem Gp:T.get F 46=some EX:=by kernel_rfl
theorem RN:T.get F 47=some MF:=by kernel_rfl
theorem Pm:T.get F 49=some J9:=by kernel_rfl
theorem vS:T.get F 50=some lW:=by kernel_rfl
theorem Nz:T.get F 51=some Je:=by kernel_rfl
theorem Pq:T.get F 52=some KI:=by kernel_rfl
theorem QS:T.get F 53=some Ky:=by kernel_rfl
theorem VR:T.get F 56=some Ql:=by kernel_rfl
theorem VT:T.get F 57=some Qh:=by kernel_rfl
theorem SA:T.get F 58=some OU:=by kernel_rfl
theorem RH:T.get F 59=some MH:=by kernel_rfl
theorem UE:T.get F 60=some QA:=by kernel_rfl
theorem SH:T.get F 61=some OH:=by kernel_rfl
theorem Zg:T.get F 62=some Vm:=by kernel_rfl
theorem SG:T.get F 63=some OW:=by kernel_rfl
theorem GI:T.get F 64=some EI:=by kernel_rfl
theorem IY:T.get F 65=some FT:=by kernel_rfl
theorem fB:T.get F 66=some Xc:=by kernel_rfl
theorem Uu:T.get F 67=some P6:=by kernel_rfl
theorem Oc:T.get F 70=some JZ:=by kernel_rfl
theorem Po:T.get F 71=some KF:=by kernel_rfl
theorem OJ:T.get F 72=some Jf:=by kernel_rfl
theorem NZ:T.get F 73=some Ip:=by kernel_rfl
theorem Nw:T.get F 74=some Jb:=by kernel_rfl
theorem Nl:T.get F 75=some Iu:=by kernel_rfl
theorem NW:T.get F 76=some Iz:=by kernel_rfl
theorem Rz:T.get F 77=some OL:=by kernel_rfl
theorem NC:T.get F 78=some Io:=by kernel_rfl
theorem jf:T.get F 79=some ZP:=by kernel_rfl
theorem NI:T.get F 80=some Ik:=by kernel_rfl
theorem Yc:T.get F 81=some Uc:=by kernel_rfl
theorem SI:T.get F 82=some N8:=by kernel_rfl
theorem VY:T.get F 83=some Qj:=by kernel_rfl
theorem EU:T.get F 90=some DN:=by kernel_rfl
theorem QW:T.get F 91=some Kv:=by kernel_rfl
theorem X6:T.get F 92=some UG:=by kernel_rfl
theorem eG:T.get F 93=some Xg:=by kernel_rfl
theorem Qc:T.get F 94=some LY:=by kernel_rfl
theorem Yk:T.get F 95=some Ul:=by kernel_rfl
theorem GH:T.get F 96=some EN:=by kernel_rfl
theorem OT:T.get F 97=some Jg:=by kernel_rfl
theorem QK:T.get F 98=some LW:=by kernel_rfl
theorem PL:T.get F 99=some KD:=by kernel_rfl
theorem Lu:T.get F 100=some IQ:=by kernel_rfl
theorem Ls:T.get F 101=some IX:=by kernel_rfl
theorem Ll:T.get F 102=some IV:=by kernel_rfl
theorem Q9:T.get F 103=some MK:=by kernel_rfl
theorem Eo:T.get F 108=some Du:=by kernel_rfl
theorem Qb:T.get F 109=some Ko:=by kernel_rfl
theorem NJ:T.get F 110=some Iy:=by kernel_rfl
abbrev Fg(n:Nat)(a:AF):Prop:=AAp Go.Proofs.Tryd.prog F n a
theorem Yq:Fg 6 Iq:=.one Proofs.Tryd.func6 (by kernel_rfl) Z9 (by kernel_rfl) (by kernel_rfl)
theorem qL:Fg 13 Qq:=.one Proofs.Tryd.func13 (by kernel_rfl) vM (by kernel_rfl) (by kernel_rfl)
theorem AAq:Fg 14 Xi:=.one Proofs.Tryd.func14 (by kernel_rfl) AC0 (by kernel_rfl) (by kernel_rfl)
theorem jC:Fg 17 Oa:=.one Proofs.Tryd.func17 (by kernel_rfl) qY (by kernel_rfl) (by kernel_rfl)
theorem iL:Fg 18 MG:=.one Proofs.Tryd.func18 (by kernel_rfl) mW (by kernel_rfl) (by kernel_rfl)
theorem iP:Fg 19 MQ:=.one Proofs.Tryd.func19 (by kernel_rfl) l7 (by kernel_rfl) (by kernel_rfl)
theorem jy:Fg 21 Nu:=.one Proofs.Tryd.func21 (by kernel_rfl) oM (by kernel_rfl) (by kernel_rfl)
theorem nI:Fg 25 Py:=.one Proofs.Tryd.func25 (by kernel_rfl) sH (by kernel_rfl) (by kernel_rfl)
theorem sJ:Fg 26 Ru:=.one Proofs.Tryd.func26 (by kernel_rfl) yR (by kernel_rfl) (by kernel_rfl)
theorem kL:Fg 27 N7:=.one Proofs.Tryd.func27 (by kernel_rfl) oO (by kernel_rfl) (by kernel_rfl)
theorem ADE:Fg 29 eP:=.one Proofs.Tryd.func29 (by kernel_rfl) AHJ (by kernel_rfl) (by kernel_rfl)
theorem vX:Fg 31 UH:=.one Proofs.Tryd.func31 (by kernel_rfl) AAu (by kernel_rfl) (by kernel_rfl)
theorem jS:Fg 32 Oe:=.one Proofs.Tryd.func32 (by kernel_rfl) oV (by kernel_rfl) (by kernel_rfl)
theorem qN:Fg 33 Qg:=.one Proofs.Tryd.func33 (by kernel_rfl) vG (by kernel_rfl) (by kernel_rfl)
theorem rF:Fg 34 Rw:=.one Proofs.Tryd.func34 (by kernel_rfl) yG (by kernel_rfl) (by kernel_rfl)
theorem sF:Fg 35 Ry:=.one Proofs.Tryd.func35 (by kernel_rfl) yP (by kernel_rfl) (by kernel_rfl)
theorem qX:Fg 37 Qo:=.one Proofs.Tryd.func37 (by kernel_rfl) wH (by kernel_rfl) (by kernel_rfl)
theorem iW:Fg 38 MO:=.one Proofs.Tryd.func38 (by kernel_rfl) nH (by kernel_rfl) (by kernel_rfl)
theorem ABa:Fg 39 ZM:=.one Proofs.Tryd.func39 (by kernel_rfl) AFO (by kernel_rfl) (by kernel_rfl)
theorem iR:Fg 40 MR:=.one Proofs.Tryd.func40 (by kernel_rfl) nD (by kernel_rfl) (by kernel_rfl)
theorem jB:Fg 41 OY:=.one Proofs.Tryd.func41 (by kernel_rfl) qP (by kernel_rfl) (by kernel_rfl)
theorem jT:Fg 42 OV:=.one Proofs.Tryd.func42 (by kernel_rfl) qj (by kernel_rfl) (by kernel_rfl)
theorem iJ:Fg 43 ML:=.one Proofs.Tryd.func43 (by kernel_rfl) mJ (by kernel_rfl) (by kernel_rfl)
theorem iT:Fg 44 MN:=.one Proofs.Tryd.func44 (by kernel_rfl) nN (by kernel_rfl) (by kernel_rfl)
theorem oK:Fg 45 Qr:=.one Proofs.Tryd.func45 (by kernel_rfl) wC (by kernel_rfl) (by kernel_rfl)
theorem Sl:Fg 46 EX:=.one Proofs.Tryd.func46 (by kernel_rfl) UO (by kernel_rfl) (by kernel_rfl)
theorem iH:Fg 47 MF:=.one Proofs.Tryd.func47 (by kernel_rfl) lq (by kernel_rfl) (by kernel_rfl)
theorem bF:Fg 49 J9:=.one Proofs.Tryd.func49 (by kernel_rfl) iV (by kernel_rfl) (by kernel_rfl)
theorem AEs:Fg 50 lW:=.one Proofs.Tryd.func50 (by kernel_rfl) AIv (by kernel_rfl) (by kernel_rfl)
theorem Zn:Fg 51 Je:=.one Proofs.Tryd.func51 (by kernel_rfl) dF (by kernel_rfl) (by kernel_rfl)
theorem ah:Fg 52 KI:=.one Proofs.Tryd.func52 (by kernel_rfl) iG (by kernel_rfl) (by kernel_rfl)
theorem dP:Fg 53 Ky:=.one Proofs.Tryd.func53 (by kernel_rfl) jU (by kernel_rfl) (by kernel_rfl)
theorem qh:Fg 56 Ql:=.one Proofs.Tryd.func56 (by kernel_rfl) vK (by kernel_rfl) (by kernel_rfl)
theorem pY:Fg 57 Qh:=.one Proofs.Tryd.func57 (by kernel_rfl) vO (by kernel_rfl) (by kernel_rfl)
theorem jg:Fg 58 OU:=.one Proofs.Tryd.func58 (by kernel_rfl) qc (by kernel_rfl) (by kernel_rfl)
theorem iQ:Fg 59 MH:=.one Proofs.Tryd.func59 (by kernel_rfl) mF (by kernel_rfl) (by kernel_rfl)
theorem nO:Fg 60 QA:=.one Proofs.Tryd.func60 (by kernel_rfl) uN (by kernel_rfl) (by kernel_rfl)
theorem lF:Fg 61 OH:=.one Proofs.Tryd.func61 (by kernel_rfl) oW (by kernel_rfl) (by kernel_rfl)
theorem yS:Fg 62 Vm:=.one Proofs.Tryd.func62 (by kernel_rfl) ABX (by kernel_rfl) (by kernel_rfl)
theorem ji:Fg 63 OW:=.one Proofs.Tryd.func63 (by kernel_rfl) o8 (by kernel_rfl) (by kernel_rfl)
theorem RV:Fg 64 EI:=.one Proofs.Tryd.func64 (by kernel_rfl) Ti (by kernel_rfl) (by kernel_rfl)
theorem U4:Fg 65 FT:=.one Proofs.Tryd.func65 (by kernel_rfl) Vu (by kernel_rfl) (by kernel_rfl)
theorem zu:Fg 66 Xc:=.one Proofs.Tryd.func66 (by kernel_rfl) AC9 (by kernel_rfl) (by kernel_rfl)
theorem nJ:Fg 67 P6:=.one Proofs.Tryd.func67 (by kernel_rfl) sD (by kernel_rfl) (by kernel_rfl)
theorem Zt:Fg 70 JZ:=.one Proofs.Tryd.func70 (by kernel_rfl) dn (by kernel_rfl) (by kernel_rfl)
theorem aA:Fg 71 KF:=.one Proofs.Tryd.func71 (by kernel_rfl) iC (by kernel_rfl) (by kernel_rfl)
theorem Zp:Fg 72 Jf:=.one Proofs.Tryd.func72 (by kernel_rfl) fC (by kernel_rfl) (by kernel_rfl)
theorem Yu:Fg 73 Ip:=.one Proofs.Tryd.func73 (by kernel_rfl) aG (by kernel_rfl) (by kernel_rfl)
theorem Zx:Fg 74 Jb:=.one Proofs.Tryd.func74 (by kernel_rfl) fG (by kernel_rfl) (by kernel_rfl)
theorem Yp:Fg 75 Iu:=.one Proofs.Tryd.func75 (by kernel_rfl) aU (by kernel_rfl) (by kernel_rfl)
theorem Yr:Fg 76 Iz:=.one Proofs.Tryd.func76 (by kernel_rfl) bJ (by kernel_rfl) (by kernel_rfl)
theorem kE:Fg 77 OL:=.one Proofs.Tryd.func77 (by kernel_rfl) pW (by kernel_rfl) (by kernel_rfl)
theorem Ym:Fg 78 Io:=.one Proofs.Tryd.func78 (by kernel_rfl) aC (by kernel_rfl) (by kernel_rfl)
theorem ABm:Fg 79 ZP:=.one Proofs.Tryd.func79 (by kernel_rfl) AFR (by kernel_rfl) (by kernel_rfl)
theorem Yt:Fg 80 Ik:=.one Proofs.Tryd.func80 (by kernel_rfl) aV (by kernel_rfl) (by kernel_rfl)
theorem wB:Fg 81 Uc:=.one Proofs.Tryd.func81 (by kernel_rfl) AA5 (by kernel_rfl) (by kernel_rfl)
theorem kC:Fg 82 N8:=.one Proofs.Tryd.func82 (by kernel_rfl) pz (by kernel_rfl) (by kernel_rfl)
theorem pU:Fg 83 Qj:=.one Proofs.Tryd.func83 (by kernel_rfl) vY (by kernel_rfl) (by kernel_rfl)
theorem OM:Fg 90 DN:=.one Proofs.Tryd.func90 (by kernel_rfl) Pj (by kernel_rfl) (by kernel_rfl)
theorem eu:Fg 91 Kv:=.one Proofs.Tryd.func91 (by kernel_rfl) je (by kernel_rfl) (by kernel_rfl)
theorem uX:Fg 92 UG:=.one Proofs.Tryd.func92 (by kernel_rfl) AAQ (by kernel_rfl) (by kernel_rfl)
theorem AA0:Fg 93 Xg:=.one Proofs.Tryd.func93 (by kernel_rfl) ADA (by kernel_rfl) (by kernel_rfl)
theorem fF:Fg 94 LY:=.one Proofs.Tryd.func94 (by kernel_rfl) kS (by kernel_rfl) (by kernel_rfl)
theorem uo:Fg 95 Ul:=.one Proofs.Tryd.func95 (by kernel_rfl) zW (by kernel_rfl) (by kernel_rfl)
theorem Rk:Fg 96 EN:=.one Proofs.Tryd.func96 (by kernel_rfl) Td (by kernel_rfl) (by kernel_rfl)
theorem Zo:Fg 97 Jg:=.one Proofs.Tryd.func97 (by kernel_rfl) dA (by kernel_rfl) (by kernel_rfl)
theorem dZ:Fg 98 LW:=.one Proofs.Tryd.func98 (by kernel_rfl) jd (by kernel_rfl) (by kernel_rfl)
theorem Z7:Fg 99 KD:=.one Proofs.Tryd.func99 (by kernel_rfl) iD (by kernel_rfl) (by kernel_rfl)
theorem YA:Fg 100 IQ:=.one Proofs.Tryd.func100 (by kernel_rfl) ZX (by kernel_rfl) (by kernel_rfl)
theorem Yb:Fg 101 IX:=.one Proofs.Tryd.func101 (by kernel_rfl) Zy (by kernel_rfl) (by kernel_rfl)
theorem YD:Fg 102 IV:=.one Proofs.Tryd.func102 (by kernel_rfl) Zb (by kernel_rfl) (by kernel_rfl)
theorem iK:Fg 103 MK:=.one Proofs.Tryd.func103 (by kernel_rfl) nG (by kernel_rfl) (by kernel_rfl)
theorem QB:Fg 108 Du:=.one Proofs.Tryd.func108 (by kernel_rfl) Qm (by kernel_rfl) (by kernel_rfl)
theorem dh:Fg 109 Ko:=.one Proofs.Tryd.func109 (by kernel_rfl) jG (by kernel_rfl) (by kernel_rfl)
theorem Yv:Fg 110 Iy:=.one Proofs.Tryd.func110 (by kernel_rfl) aP (by kernel_rfl) (by kernel_rfl)
theorem all_good:T.All (λp af=>AAp Go.Proofs.Tryd.prog F p.key af) F:=(.n0 (.n0 (.n0 (.n0 (.n0 (.n1 vX (.n1 ji .e .e) (.n1 uo .e .e)) (.n1 iH (.n1 ABm .e .e) .e)) (.n0 (.n1 ABa (.n1 aA .e .e) (.n1 iK .e .e)) .e)) (.n0 (.n1 iP (.n1 sF (.n1 nJ .e .e) (.n1 Z7 .e .e)) (.n1 Zn (.n1 pU .e .e) .e)) (.n1 kL (.n1 iJ (.n1 Yp .e .e) .e) (.n1 iQ (.n1 eu .e .e) .e)))) (.n0 (.n0 (.n1 jC (.n1 qN (.n1 U4 .e .e) (.n1 Zo .e .e)) (.n1 bF (.n1 wB .e .e) .e)) (.n1 nI (.n1 jB (.n1 Yu .e .e) .e) (.n1 pY .e .e))) (.n1 qL (.n1 jy (.n1 qX .e (.n1 Yb .e .e)) (.n1 dP .e .e)) (.n1 ADE (.n1 oK (.n1 kE .e .e) (.n1 dh .e .e)) (.n1 lF (.n1 AA0 .e .e) .e))))) (.n0 (.n0 (.n0 (.n0 (.n1 jS (.n1 RV .e .e) (.n1 Rk .e .e)) (.n0 (.n1 Yt .e .e) .e)) (.n0 (.n1 iR (.n1 Zp .e .e) .e) (.n1 qh .e .e))) (.n0 (.n0 (.n0 .e (.n1 YA .e .e)) (.n1 ah .e .e)) (.n0 (.n1 iT (.n1 Yr .e .e) (.n1 QB .e .e)) (.n1 nO (.n1 uX .e .e) .e)))) (.n1 Yq (.n0 (.n1 iL (.n1 rF (.n1 zu .e .e) (.n1 dZ .e .e)) (.n1 AEs (.n1 kC .e .e) .e)) (.n1 sJ (.n1 jT (.n1 Zx .e .e) .e) (.n1 jg (.n1 OM .e .e) .e))) (.n1 AAq (.n0 (.n1 iW (.n1 Zt .e .e) (.n1 YD .e .e)) .e) (.n0 (.n1 Sl (.n1 Ym .e .e) (.n1 Yv .e .e)) (.n1 yS (.n1 fF .e .e) .e))))))
theorem APd:zU Go.Proofs.Tryd.prog F:=.APb (by kernel_rfl) all_good
end Go.RL
