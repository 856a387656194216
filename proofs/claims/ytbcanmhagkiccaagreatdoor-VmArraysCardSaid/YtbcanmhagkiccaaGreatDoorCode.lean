/- Part of a proof; nothing is assumed. -/
import Derived.Test.YtbcanmhagkiccaaGreatDoorEngA
import Derived.Test.YtbcanmhagkiccaaGreatDoorEngF
import Derived.Test.YtbcanmhagkiccaaGreatDoorProg
import Derived.Test.YtbcanmhagkiccaaGreatDoorEngE
set_option linter.unusedVariables false
set_option linter.unusedSimpArgs false
noncomputable section
namespace Go.R5
open Go.Eng
def q0:P2:=.h
def q1:P2:=.z q0
def q2:P2:=.o q0
def q3:P2:=.z q1
def q4:P2:=.o q1
def q5:P2:=.z q2
def q6:P2:=.o q2
def q7:P2:=.z q3
def q8:P2:=.o q3
def q9:P2:=.z q4
def q10:P2:=.o q4
def q11:P2:=.z q5
def q12:P2:=.o q5
def q13:P2:=.z q6
def Vh:P2:=.o q6
def q15:P2:=.z q7
def q16:P2:=.o q7
def wU:P2:=.z q8
def VN:P2:=.o q8
def fZ:P2:=.z q9
def Vx:P2:=.o q9
def jI:P2:=.z q10
def q22:P2:=.o q10
def q23:P2:=.z q11
def q24:P2:=.o q11
def q25:P2:=.z q12
def q26:P2:=.o q12
def q27:P2:=.z q13
def q28:P2:=.o q13
def q29:P2:=.z Vh
def q30:P2:=.o Vh
def q31:P2:=.z q15
def q32:P2:=.o q15
def q33:P2:=.z q16
def q34:P2:=.o q16
def q35:P2:=.z wU
def q36:P2:=.o wU
def q37:P2:=.z VN
def q38:P2:=.o VN
def q39:P2:=.z fZ
def q40:P2:=.o fZ
def q41:P2:=.z Vx
def q42:P2:=.o Vx
def q43:P2:=.z jI
def q44:P2:=.o jI
def q45:P2:=.z q22
def q46:P2:=.o q22
def q47:P2:=.z q23
def q48:P2:=.o q23
def q49:P2:=.z q24
def q50:P2:=.o q24
def q51:P2:=.z q25
def q52:P2:=.o q25
def q53:P2:=.z q26
def q54:P2:=.o q26
def q55:P2:=.z q27
def q56:P2:=.o q27
def q57:P2:=.z q28
def q58:P2:=.o q28
def q59:P2:=.z q29
def q60:P2:=.o q29
def q61:P2:=.z q30
def q62:P2:=.o q30
def q63:P2:=.z q31
def q64:P2:=.o q31
def q65:P2:=.z q32
def q66:P2:=.o q32
def q67:P2:=.z q33
def q68:P2:=.o q33
def q69:P2:=.z q34
def q70:P2:=.o q34
def q71:P2:=.z q35
def q72:P2:=.o q35
def q73:P2:=.z q36
def q74:P2:=.o q36
def q75:P2:=.z q37
def q76:P2:=.o q37
def q77:P2:=.z q38
def q78:P2:=.o q38
def q79:P2:=.z q39
def q80:P2:=.o q39
def q81:P2:=.z q40
def q82:P2:=.o q40
def q83:P2:=.z q41
def q84:P2:=.o q41
def q85:P2:=.z q42
def q86:P2:=.o q42
def q87:P2:=.z q43
def q88:P2:=.o q43
def q89:P2:=.z q44
def q90:P2:=.o q44
def q91:P2:=.z q45
def q92:P2:=.o q45
def q93:P2:=.z q46
def q94:P2:=.o q46
def q95:P2:=.z q47
def q96:P2:=.o q47
def q97:P2:=.z q48
def q98:P2:=.o q48
def q99:P2:=.z q49
def Aa4:P2:=.o q49
def Abg:P2:=.z q50
def Abb:P2:=.o q50
def Aai:P2:=.z q51
def Aca:P2:=.o q51
def ALZ:P2:=.z q52
def AG7:P2:=.o q52
def AK4:P2:=.z q53
def AIZ:P2:=.o q53
def oh:P2:=.z q54
def ADZ:P2:=.o q54
def AJz:P2:=.z q55
def AZi:P2:=.o q55
def Afr:P2:=.z q56
def Ajy:P2:=.o q56
def Ai0:P2:=.z q57
def AhM:P2:=.o q57
def Ah9:P2:=.z q58
def Ajp:P2:=.o q58
def AiW:P2:=.z q59
def Ail:P2:=.o q59
def Aj0:P2:=.z q60
def AjG:P2:=.o q60
def Aj5:P2:=.z q61
def Ajg:P2:=.o q61
def Ai6:P2:=.z q62
def Aif:P2:=.o q62
def AjF:P2:=.z q63
def AhL:P2:=.o q63
def AjO:P2:=.z q64
def AhI:P2:=.o q64
def Ai1:P2:=.z q65
def AhV:P2:=.o q65
def Ai2:P2:=.z q66
def Ajz:P2:=.o q66
def AjZ:P2:=.z q67
def Ah4:P2:=.o q67
def AiS:P2:=.z q68
def AjB:P2:=.o q68
def AfF:P2:=.z q69
def Ajo:P2:=.o q69
def Aic:P2:=.z q70
def Aih:P2:=.o q70
def AiZ:P2:=.z q71
def Afz:P2:=.o q71
def AjR:P2:=.z q72
def AkQ:P2:=.o q72
def Ahe:P2:=.z q73
def AkO:P2:=.o q73
def Ahr:P2:=.z q74
def AjX:P2:=.o q74
def Aha:P2:=.z q75
def Ajw:P2:=.o q75
def Ah8:P2:=.z q76
def AgF:P2:=.o q76
def AkS:P2:=.z q77
def AkT:P2:=.o q77
def AkF:P2:=.z q78
def Ajk:P2:=.o q78
def Ajv:P2:=.z q79
def Ahu:P2:=.o q79
def AiX:P2:=.z q80
def Ajn:P2:=.o q80
def Aj6:P2:=.z q81
def Ah1:P2:=.o q81
def AiT:P2:=.z q82
def AjW:P2:=.o q82
def Ahp:P2:=.z q83
def Ahl:P2:=.o q83
def AhT:P2:=.z q84
def Aik:P2:=.o q84
def AkD:P2:=.z q85
def AkP:P2:=.o q85
def Aiq:P2:=.z q86
def AhR:P2:=.o q86
def Aj4:P2:=.z q87
def AjN:P2:=.o q87
def Ajc:P2:=.z q88
def AkL:P2:=.o q88
def AiR:P2:=.z q89
def Aip:P2:=.o q89
def AhN:P2:=.z q90
def Ahc:P2:=.o q90
def Ahn:P2:=.z q91
def Ahf:P2:=.o q91
def AkV:P2:=.z q92
def Ahx:P2:=.o q92
def Ajl:P2:=.z q93
def AkG:P2:=.o q93
def Ahg:P2:=.z q94
def AhY:P2:=.o q94
def Ahb:P2:=.z q95
def Aja:P2:=.o q95
def AiV:P2:=.z q96
def AhP:P2:=.o q96
def Aje:P2:=.z q97
def AjD:P2:=.o q97
def AkA:P2:=.z q98
def Ahq:P2:=.o q98
def Aix:P2:=.z q99
def AiA:P2:=.o q99
def Aio:P2:=.z Aa4
def AjY:P2:=.o Aa4
def AkU:P2:=.z Abg
def Aia:P2:=.o Abg
def Ajm:P2:=.z Abb
def AiP:P2:=.o Abb
def Aj2:P2:=.z Aai
def AjP:P2:=.o Aai
def Aji:P2:=.z Aca
def AjA:P2:=.o Aca
def AkC:P2:=.z ALZ
def AiK:P2:=.o ALZ
def Aj9:P2:=.z AG7
def Ah2:P2:=.o AG7
def AhS:P2:=.z AK4
def AiJ:P2:=.o AK4
def Ahh:P2:=.z AIZ
def Aiu:P2:=.o AIZ
def AjS:P2:=.z oh
def AkM:P2:=.o oh
def AjM:P2:=.z ADZ
def Ait:P2:=.o ADZ
def AjU:P2:=.z AJz
def AiU:P2:=.o AJz
def AkE:P2:=.z AZi
def Aii:P2:=.o AZi
abbrev pX:Nat:=0
abbrev Vu:Nat:=1
abbrev wE:Nat:=2
end Go.R5
namespace Go.R5
open Go.Eng
set_option maxRecDepth 100000
abbrev tr(l:List (Nat×Nat))(d:Bool)(o:jK)(g:Nat)(f:Func):Option AF:=trF Go.Proofs.Tryz.prog (inR l) d o g f
abbrev Aan:=tr [(11,11),(15,15),(17,28),(30,37),(39,63),(65,70),(72,96)] false [] 0 Proofs.Tryz.f3
def oC:=Aj Aan
theorem Adv:Aan=some oC:=AZ (by kernel_rfl)
abbrev AdL:=tr [(5,5),(9,15),(17,24),(26,57)] false [] 0 Proofs.Tryz.f4
def nR:=Aj AdL
theorem Abc:AdL=some nR:=AZ (by kernel_rfl)
abbrev Aaj:=tr [(16,16),(21,29),(31,38),(43,52),(54,60)] false [] 0 Proofs.Tryz.f5
def oV:=Aj Aaj
theorem Aa9:Aaj=some oV:=AZ (by kernel_rfl)
abbrev Adc:=tr [(11,17),(19,33)] false [] 0 Proofs.Tryz.f6
def nX:=Aj Adc
theorem AdS:Adc=some nX:=AZ (by kernel_rfl)
abbrev Abp:=tr [(12,12),(20,30),(32,34),(45,45),(47,57),(62,77),(79,83),(85,89)] false [(4,Bg 10),(20,Bg 11),(21,Bg 9)] 0 Proofs.Tryz.f7
def l9:=Aj Abp
theorem AbP:Abp=some l9:=AZ (by kernel_rfl)
abbrev AbE:=tr [(8,14),(18,24),(31,32)] false [(3,Bg 4),(7,Bg 7)] 0 Proofs.Tryz.f8
def mO:=Aj AbE
theorem Abx:AbE=some mO:=AZ (by kernel_rfl)
abbrev AdQ:=tr [(6,6),(11,20)] false [] 0 Proofs.Tryz.f9
def mG:=Aj AdQ
theorem Aa0:AdQ=some mG:=AZ (by kernel_rfl)
abbrev AQL:=tr [(12,18),(32,36),(43,51),(56,58),(66,71),(78,79)] false [(2,Bg 9),(3,Bg 6),(6,Bg 7),(12,Bg 8),(15,Bg 7)] 0 Proofs.Tryz.f10
def Y7:=Aj AQL
theorem AXO:AQL=some Y7:=AZ (by kernel_rfl)
abbrev AQB:=tr [(11,11),(16,24),(26,31)] false [] 0 Proofs.Tryz.f11
def bF:=Aj AQB
theorem AZq:AQB=some bF:=AZ (by kernel_rfl)
abbrev ASM:=tr [(13,14),(16,18),(23,24),(37,39),(41,41),(62,72),(77,78),(87,87),(89,93),(95,96)] false [(8,Bg 14),(13,Bg 9),(14,Bg 13),(21,Bg 9)] 0 Proofs.Tryz.f12
def Yr:=Aj ASM
theorem AYH:ASM=some Yr:=AZ (by kernel_rfl)
abbrev AQx:=tr [(6,6),(11,11),(16,25),(30,32),(43,45),(47,54)] false [(8,Bg 11)] 0 Proofs.Tryz.f13
def Yv:=Aj AQx
theorem AUr:AQx=some Yv:=AZ (by kernel_rfl)
abbrev AQE:=tr [(12,12),(16,16),(19,24),(29,48),(52,53)] false [(8,Bg 5)] 0 Proofs.Tryz.f14
def aV:=Aj AQE
theorem AVX:AQE=some aV:=AZ (by kernel_rfl)
abbrev AQg:=tr [(1,1)] false [] 0 Proofs.Tryz.f15
def aN:=Aj AQg
theorem AXU:AQg=some aN:=AZ (by kernel_rfl)
abbrev ASO:=tr [(5,8)] false [] 0 Proofs.Tryz.f16
def bg:=Aj ASO
theorem AZw:ASO=some bg:=AZ (by kernel_rfl)
abbrev AQC:=tr [] false [(1,Bg 4)] 0 Proofs.Tryz.f17
def bM:=Aj AQC
theorem AaF:AQC=some bM:=AZ (by kernel_rfl)
abbrev ARr:=tr [(9,9),(22,30),(44,55),(68,75)] false [(1,Bg 11),(3,Iu [0,1,2,3,4,5,6,7,12,8,9,10,11,13,14]),(6,Bg 12),(10,Bg 14)] 0 Proofs.Tryz.f18
def YS:=Aj ARr
theorem AUn:ARr=some YS:=AZ (by kernel_rfl)
abbrev AQl:=tr [(6,10),(12,21),(23,36),(38,41),(53,55),(67,75),(77,85),(100,104),(112,112)] false [(8,Bg 11),(10,Bg 13),(15,Bg 15),(17,Iu [0,1,3,4,2,5])] 0 Proofs.Tryz.f19
def Zj:=Aj AQl
theorem AZy:AQl=some Zj:=AZ (by kernel_rfl)
abbrev ARS:=tr [(8,13),(20,27),(35,40),(42,43)] false [(3,Bg 7),(8,Bg 8)] 0 Proofs.Tryz.f20
def Y0:=Aj ARS
theorem AT6:ARS=some Y0:=AZ (by kernel_rfl)
abbrev AP9:=tr [(5,19),(21,32),(34,35),(37,40),(50,57),(59,61),(69,84),(86,88)] false [(11,Iu [0,1,2,4,3,5,6,7,8,9]),(15,Bg 8)] 0 Proofs.Tryz.f21
def Yn:=Aj AP9
theorem AVG:AP9=some Yn:=AZ (by kernel_rfl)
abbrev ARp:=tr [(3,8)] false [] 0 Proofs.Tryz.f22
def Zz:=Aj ARp
theorem AWM:ARp=some Zz:=AZ (by kernel_rfl)
abbrev ASC:=tr [(14,14),(19,20),(28,30)] false [(1,Iu [0,1,2,3,4,5,8,6,7,9]),(5,Bg 8)] 0 Proofs.Tryz.f23
def Zm:=Aj ASC
theorem AYl:ASC=some Zm:=AZ (by kernel_rfl)
abbrev ARe:=tr [(6,9),(14,15),(23,24)] false [(5,Bg 8)] 0 Proofs.Tryz.f24
def bK:=Aj ARe
theorem ATv:ARe=some bK:=AZ (by kernel_rfl)
abbrev ASh:=tr [(8,8),(10,26)] false [] 0 Proofs.Tryz.f25
def Yd:=Aj ASh
theorem AZF:ASh=some Yd:=AZ (by kernel_rfl)
abbrev ASU:=tr [(5,30)] false [] 0 Proofs.Tryz.f26
def Zo:=Aj ASU
theorem AVt:ASU=some Zo:=AZ (by kernel_rfl)
abbrev AQV:=tr [(10,10),(13,14),(18,18),(21,31),(33,49),(51,59),(61,62),(64,66),(71,77),(79,88),(90,91),(96,105),(107,127),(129,129)] false [] 0 Proofs.Tryz.f27
def ZX:=Aj AQV
theorem AV8:AQV=some ZX:=AZ (by kernel_rfl)
abbrev APr:=tr [(3,3),(5,7)] false [] 0 Proofs.Tryz.f28
def Yx:=Aj APr
theorem AVP:APr=some Yx:=AZ (by kernel_rfl)
abbrev APt:=tr [(7,15),(20,33)] false [] 0 Proofs.Tryz.f29
def YZ:=Aj APt
theorem AXs:APt=some YZ:=AZ (by kernel_rfl)
abbrev AQw:=tr [(10,20),(25,26),(41,46),(48,52)] false [(7,Bg 15)] 0 Proofs.Tryz.f30
def Ym:=Aj AQw
theorem ATM:AQw=some Ym:=AZ (by kernel_rfl)
abbrev ASv:=tr [(9,27),(29,29),(34,47),(49,80),(82,82),(87,88),(95,96)] false [(15,Bg 6)] 0 Proofs.Tryz.f31
def bC:=Aj ASv
theorem AUA:ASv=some bC:=AZ (by kernel_rfl)
abbrev ARk:=tr [(14,14),(16,16),(21,22),(32,32),(41,41),(46,47),(62,69),(71,72),(77,85),(87,87)] false [(4,Bg 9),(7,Bg 8),(12,Iu [0,1,2,3,4,5,6,7,8,14,9,10,11,12,13,15,16,17])] 0 Proofs.Tryz.f32
def bW:=Aj ARk
theorem AUq:ARk=some bW:=AZ (by kernel_rfl)
abbrev AQ3:=tr [(3,3),(5,9)] false [] 0 Proofs.Tryz.f33
def ZR:=Aj AQ3
theorem AVY:AQ3=some ZR:=AZ (by kernel_rfl)
abbrev AR7:=tr [(8,8),(10,21)] false [] 0 Proofs.Tryz.f34
def YX:=Aj AR7
theorem AUZ:AR7=some YX:=AZ (by kernel_rfl)
abbrev ARZ:=tr [(8,19),(41,58),(86,106),(108,123),(125,140),(142,146)] false [(4,Bg 11),(6,Bg 10),(10,Bg 13),(11,Bg 15)] 0 Proofs.Tryz.f35
def Ye:=Aj ARZ
theorem ATF:ARZ=some Ye:=AZ (by kernel_rfl)
abbrev ASD:=tr [(9,9),(11,22),(24,24),(31,31)] false [(6,[(0,.plain),(1,.plain),(2,.plain),(4,.plain),(5,.plain),(3,.plain),(6,.wr),(7,.wr)])] 0 Proofs.Tryz.f36
def aC:=Aj ASD
theorem AWd:ASD=some aC:=AZ (by kernel_rfl)
abbrev APw:=tr [(8,8),(13,17),(19,21)] false [] 0 Proofs.Tryz.f37
def aF:=Aj APw
theorem AT8:APw=some aF:=AZ (by kernel_rfl)
abbrev AQi:=tr [(6,6),(10,15),(17,18)] false [] 0 Proofs.Tryz.f38
def Yb:=Aj AQi
theorem AXI:AQi=some Yb:=AZ (by kernel_rfl)
abbrev ARc:=tr [(11,11),(28,52),(54,55)] false [(1,Bg 12)] 0 Proofs.Tryz.f39
def aT:=Aj ARc
theorem AYg:ARc=some aT:=AZ (by kernel_rfl)
abbrev AQn:=tr [(9,9),(12,19),(24,29),(31,37)] false [] 0 Proofs.Tryz.f40
def Ya:=Aj AQn
theorem AYV:AQn=some Ya:=AZ (by kernel_rfl)
abbrev AQs:=tr [(4,7)] false [] 0 Proofs.Tryz.f41
def Y4:=Aj AQs
theorem AXq:AQs=some Y4:=AZ (by kernel_rfl)
abbrev ASk:=tr [] false [(1,Bg 12)] 0 Proofs.Tryz.f42
def ZN:=Aj ASk
theorem AXV:ASk=some ZN:=AZ (by kernel_rfl)
abbrev ASI:=tr [(6,6),(8,11),(13,13),(30,37),(39,44),(46,46),(60,60),(74,79),(81,87),(89,93),(95,95),(112,115),(117,129),(131,143),(145,153)] false [(4,Bg 15),(10,Bg 12),(12,Bg 13),(19,Bg 16),(35,Bg 8)] 0 Proofs.Tryz.f43
def ZA:=Aj ASI
theorem ATs:ASI=some ZA:=AZ (by kernel_rfl)
abbrev AQt:=tr [(9,14),(16,44)] false [] 0 Proofs.Tryz.f44
def Yt:=Aj AQt
theorem AXf:AQt=some Yt:=AZ (by kernel_rfl)
abbrev ASF:=tr [(6,14)] false [(1,Bg 21)] 0 Proofs.Tryz.f45
def Yi:=Aj ASF
theorem AZd:ASF=some Yi:=AZ (by kernel_rfl)
abbrev ARw:=tr [(24,39),(61,61),(73,75)] false [(0,Bg 10),(1,Bg 10),(4,Bg 11),(5,Bg 11),(7,Bg 11)] 0 Proofs.Tryz.f46
def Zn:=Aj ARw
theorem AYm:ARw=some Zn:=AZ (by kernel_rfl)
abbrev APx:=tr [(9,13),(24,24),(37,37),(49,52),(54,59),(61,68),(70,70),(72,85),(87,87),(89,92),(94,109)] false [(2,Bg 10),(4,Bg 10),(8,Bg 11)] 0 Proofs.Tryz.f47
def Yq:=Aj APx
theorem AUu:APx=some Yq:=AZ (by kernel_rfl)
abbrev ASX:=tr [(10,14),(16,18)] false [] 0 Proofs.Tryz.f48
def Z4:=Aj ASX
theorem AZK:ASX=some Z4:=AZ (by kernel_rfl)
abbrev AQ8:=tr [(5,17),(19,23)] false [] 0 Proofs.Tryz.f49
def aX:=Aj AQ8
theorem AUl:AQ8=some aX:=AZ (by kernel_rfl)
abbrev AQf:=tr [(5,8),(10,11)] false [] 0 Proofs.Tryz.f50
def Zf:=Aj AQf
theorem AWa:AQf=some Zf:=AZ (by kernel_rfl)
abbrev ASL:=tr [(4,6),(8,12)] false [] 0 Proofs.Tryz.f51
def ak:=Aj ASL
theorem AS9:ASL=some ak:=AZ (by kernel_rfl)
abbrev AQq:=tr [(4,4),(6,7)] false [] 0 Proofs.Tryz.f52
def ay:=Aj AQq
theorem AXQ:AQq=some ay:=AZ (by kernel_rfl)
abbrev ARD:=tr [(11,44),(46,46)] false [] 0 Proofs.Tryz.f53
def Zk:=Aj ARD
theorem AYM:ARD=some Zk:=AZ (by kernel_rfl)
abbrev ASn:=tr [(6,12),(17,34),(36,38),(40,44),(54,62)] false [(2,Iu [0,1,4,2,3,5]),(11,Iu [0,1,2,4,3,5,6,7,8,9])] 0 Proofs.Tryz.f54
def aY:=Aj ASn
theorem AWz:ASn=some aY:=AZ (by kernel_rfl)
abbrev ASg:=tr [(4,8),(10,21)] false [] 0 Proofs.Tryz.f55
def Y5:=Aj ASg
theorem AYR:ASg=some Y5:=AZ (by kernel_rfl)
abbrev ARd:=tr [(3,3),(5,7)] false [] 0 Proofs.Tryz.f56
def aH:=Aj ARd
theorem AXi:ARd=some aH:=AZ (by kernel_rfl)
abbrev AQa:=tr [(6,13),(18,28)] false [] 0 Proofs.Tryz.f57
def Yp:=Aj AQa
theorem AVI:AQa=some Yp:=AZ (by kernel_rfl)
abbrev AS5:=tr [(2,11)] false [] 0 Proofs.Tryz.f58
def YT:=Aj AS5
theorem AZa:AS5=some YT:=AZ (by kernel_rfl)
abbrev AQQ:=tr [(6,9),(11,11),(15,15),(25,25)] false [(6,Bg 9)] 0 Proofs.Tryz.f59
def ZE:=Aj AQQ
theorem AXh:AQQ=some ZE:=AZ (by kernel_rfl)
abbrev AP5:=tr [(10,13),(19,29),(31,31)] false [] 0 Proofs.Tryz.f60
def aU:=Aj AP5
theorem AYA:AP5=some aU:=AZ (by kernel_rfl)
abbrev AS4:=tr [(5,30)] false [] 0 Proofs.Tryz.f61
def cZ:=Aj AS4
theorem AVv:AS4=some cZ:=AZ (by kernel_rfl)
abbrev ARO:=tr [(5,8)] false [] 0 Proofs.Tryz.f62
def aZ:=Aj ARO
theorem AYJ:ARO=some aZ:=AZ (by kernel_rfl)
abbrev ASB:=tr [(5,6),(10,10),(29,31),(35,35),(54,54)] false [(4,Bg 18),(10,Bg 18)] 0 Proofs.Tryz.f63
def Zg:=Aj ASB
theorem AX8:ASB=some Zg:=AZ (by kernel_rfl)
abbrev ASe:=tr [(7,7),(13,16),(18,20),(22,29),(31,31)] false [] 0 Proofs.Tryz.f64
def aO:=Aj ASe
theorem ATD:ASe=some aO:=AZ (by kernel_rfl)
abbrev AQU:=tr [(10,10),(14,14),(17,22),(27,40),(44,45)] false [(8,Bg 5)] 0 Proofs.Tryz.f65
def aS:=Aj AQU
theorem AV7:AQU=some aS:=AZ (by kernel_rfl)
abbrev AQo:=tr [] false [(1,Iu [0,1,2,3,4,9,5,6,7,8,10,11]),(2,Bg 18),(3,Iu [0,1,2,3,4,5,6,7,8,10,11,12,13,14,15,9,16,17,18,19,20,21,22,23])] 0 Proofs.Tryz.f66
def Zw:=Aj AQo
theorem AVD:AQo=some Zw:=AZ (by kernel_rfl)
abbrev ARF:=tr [(9,14),(19,39)] false [] 0 Proofs.Tryz.f67
def Yc:=Aj ARF
theorem AWT:ARF=some Yc:=AZ (by kernel_rfl)
abbrev AQF:=tr [(4,8)] false [] 0 Proofs.Tryz.f68
def ZJ:=Aj AQF
theorem AaC:AQF=some ZJ:=AZ (by kernel_rfl)
abbrev AQA:=tr [(5,9)] false [] 0 Proofs.Tryz.f69
def Yj:=Aj AQA
theorem AUm:AQA=some Yj:=AZ (by kernel_rfl)
abbrev AQu:=tr [(5,7)] false [] 0 Proofs.Tryz.f70
def ZW:=Aj AQu
theorem ATe:AQu=some ZW:=AZ (by kernel_rfl)
abbrev ASc:=tr [(8,14),(16,20),(25,40)] false [] 0 Proofs.Tryz.f71
def aQ:=Aj ASc
theorem AWB:ASc=some aQ:=AZ (by kernel_rfl)
abbrev ASp:=tr [(8,47),(49,49),(54,70),(72,75),(80,107),(109,111)] false [] 0 Proofs.Tryz.f72
def dA:=Aj ASp
theorem ATw:ASp=some dA:=AZ (by kernel_rfl)
abbrev AQ5:=tr [(13,27),(32,34),(36,37),(42,45),(47,48),(53,56),(58,59),(64,88),(90,91),(96,106),(108,108)] false [] 0 Proofs.Tryz.f73
def bH:=Aj AQ5
theorem AYO:AQ5=some bH:=AZ (by kernel_rfl)
abbrev AS6:=tr [(6,8),(10,13),(15,17)] false [(6,Bg 12)] 0 Proofs.Tryz.f74
def ZI:=Aj AS6
theorem AaE:AS6=some ZI:=AZ (by kernel_rfl)
abbrev ASG:=tr [(5,5)] false [] 0 Proofs.Tryz.f75
def bV:=Aj ASG
theorem AWI:ASG=some bV:=AZ (by kernel_rfl)
abbrev AS7:=tr [(3,4)] false [] 0 Proofs.Tryz.f76
def aW:=Aj AS7
theorem AVC:AS7=some aW:=AZ (by kernel_rfl)
abbrev AQv:=tr [(18,24),(26,33),(35,36),(62,62),(67,69),(86,86),(107,108),(113,115),(151,151),(153,162)] false [(6,Bg 18),(8,Bg 9),(14,Iu [0,1,2,3,4,5,6,7,8,9,10,11,16,12,13,14,15,17,18]),(17,[(0,.plain),(1,.plain),(2,.plain),(3,.plain),(4,.plain),(5,.plain),(6,.plain),(7,.plain),(8,.plain),(9,.plain),(10,.plain),(11,.plain),(12,.wr)]),(18,Bg 8),(23,Iu [0,1,2,3,4,5,6,7,8,9,10,11,16,12,13,14,15,17,18]),(24,[(0,.plain),(1,.plain),(2,.plain),(3,.plain),(4,.plain),(5,.plain),(6,.plain),(7,.plain),(8,.plain),(9,.plain),(10,.plain),(11,.plain),(12,.wr)]),(25,Bg 8)] 0 Proofs.Tryz.f77
def dB:=Aj AQv
theorem AVs:AQv=some dB:=AZ (by kernel_rfl)
abbrev APz:=tr [] false [(1,Iu [0,1,3,4,2,5,6,7])] 0 Proofs.Tryz.f78
def bI:=Aj APz
theorem AWY:APz=some bI:=AZ (by kernel_rfl)
abbrev AR2:=tr [(12,12),(15,15),(17,19),(22,26),(28,32),(34,38),(40,40),(65,70),(79,79),(81,97),(99,112),(114,125),(127,138),(140,186),(188,193),(195,200),(202,208),(210,219),(221,225)] false [(10,Bg 24),(13,Bg 9)] 0 Proofs.Tryz.f79
def bD:=Aj AR2
theorem AWG:AR2=some bD:=AZ (by kernel_rfl)
abbrev ASi:=tr [(7,13),(15,16)] false [] 0 Proofs.Tryz.f80
def Za:=Aj ASi
theorem AWU:ASi=some Za:=AZ (by kernel_rfl)
abbrev ARP:=tr [(3,8)] false [] 0 Proofs.Tryz.f81
def bG:=Aj ARP
theorem AYG:ARP=some bG:=AZ (by kernel_rfl)
abbrev AR4:=tr [(4,5)] false [] 0 Proofs.Tryz.f82
def Z8:=Aj AR4
theorem AUJ:AR4=some Z8:=AZ (by kernel_rfl)
abbrev ARN:=tr [(19,26),(28,31),(33,42),(44,52),(54,62),(64,72),(74,82),(84,92),(94,95)] false [(0,Bg 10),(19,Bg 12)] 0 Proofs.Tryz.f83
def Y6:=Aj ARN
theorem AXX:ARN=some Y6:=AZ (by kernel_rfl)
abbrev AQh:=tr [(13,13),(15,18),(20,20),(31,40),(42,51),(53,59),(88,92),(94,102),(104,112),(114,115),(126,131),(133,140),(142,145),(147,160),(162,169),(171,182)] false [(4,Bg 11),(11,Bg 29),(19,Bg 12)] 0 Proofs.Tryz.f84
def Y3:=Aj AQh
theorem AZt:AQh=some Y3:=AZ (by kernel_rfl)
abbrev ASz:=tr [(3,3),(5,7)] false [] 0 Proofs.Tryz.f85
def aj:=Aj ASz
theorem AXC:ASz=some aj:=AZ (by kernel_rfl)
abbrev AQk:=tr [(7,15),(26,43)] false [(3,Bg 10)] 0 Proofs.Tryz.f86
def YU:=Aj AQk
theorem ATN:AQk=some YU:=AZ (by kernel_rfl)
abbrev AQZ:=tr [(5,7)] false [] 0 Proofs.Tryz.f87
def ZK:=Aj AQZ
theorem AVM:AQZ=some ZK:=AZ (by kernel_rfl)
abbrev AP0:=tr [(5,7)] false [] 0 Proofs.Tryz.f88
def ZF:=Aj AP0
theorem AS8:AP0=some ZF:=AZ (by kernel_rfl)
abbrev AQm:=tr [(3,8)] false [] 0 Proofs.Tryz.f89
def Zx:=Aj AQm
theorem AW4:AQm=some Zx:=AZ (by kernel_rfl)
abbrev ASQ:=tr [(33,34)] false [(2,Bg 27),(4,Bg 16)] 0 Proofs.Tryz.f90
def bQ:=Aj ASQ
theorem AZb:ASQ=some bQ:=AZ (by kernel_rfl)
abbrev ARo:=tr [(3,16)] false [] 0 Proofs.Tryz.f91
def Yg:=Aj ARo
theorem AT5:ARo=some Yg:=AZ (by kernel_rfl)
abbrev AQH:=tr [(3,8)] false [] 0 Proofs.Tryz.f92
def Yl:=Aj AQH
theorem AX1:AQH=some Yl:=AZ (by kernel_rfl)
abbrev ARJ:=tr [(5,25)] false [] 0 Proofs.Tryz.f93
def Yw:=Aj ARJ
theorem AUg:ARJ=some Yw:=AZ (by kernel_rfl)
abbrev APy:=tr [(3,8)] false [] 0 Proofs.Tryz.f94
def bn:=Aj APy
theorem AZH:APy=some bn:=AZ (by kernel_rfl)
abbrev AQW:=tr [(7,7),(12,20),(22,23)] false [] 0 Proofs.Tryz.f95
def ZQ:=Aj AQW
theorem AUW:AQW=some ZQ:=AZ (by kernel_rfl)
abbrev AQS:=tr [(4,11),(13,21)] false [] 0 Proofs.Tryz.f96
def bf:=Aj AQS
theorem ATU:AQS=some bf:=AZ (by kernel_rfl)
abbrev ASA:=tr [(4,6),(8,13)] false [] 0 Proofs.Tryz.f97
def Zi:=Aj ASA
theorem AYn:ASA=some Zi:=AZ (by kernel_rfl)
abbrev AQ9:=tr [(4,14),(16,21)] true [] 157 Proofs.Tryz.f98
def Zu:=Aj AQ9
theorem AT4:AQ9=some Zu:=AZ (by kernel_rfl)
abbrev AP7:=tr [(4,8)] false [] 0 Proofs.Tryz.f99
def Yy:=Aj AP7
theorem AXZ:AP7=some Yy:=AZ (by kernel_rfl)
abbrev AFX:=tr [(5,9)] false [] 0 Proofs.Tryz.f100
def Po:=Aj AFX
theorem AI4:AFX=some Po:=AZ (by kernel_rfl)
abbrev AE5:=tr [(4,8)] false [] 0 Proofs.Tryz.f101
def Qr:=Aj AE5
theorem AMU:AE5=some Qr:=AZ (by kernel_rfl)
abbrev ADU:=tr [(5,9)] false [] 0 Proofs.Tryz.f102
def QI:=Aj ADU
theorem AHG:ADU=some QI:=AZ (by kernel_rfl)
abbrev AFD:=tr [(6,9),(11,11),(15,15),(25,25)] false [(6,Bg 9)] 0 Proofs.Tryz.f103
def RG:=Aj AFD
theorem ALI:AFD=some RG:=AZ (by kernel_rfl)
abbrev yx:=tr [(6,6),(10,15),(17,18)] false [] 0 Proofs.Tryz.f104
def O1:=Aj yx
theorem AHn:yx=some O1:=AZ (by kernel_rfl)
abbrev AGA:=tr [(3,22)] false [] 0 Proofs.Tryz.f105
def RD:=Aj AGA
theorem AI7:AGA=some RD:=AZ (by kernel_rfl)
abbrev AAt:=tr [(3,22)] false [] 0 Proofs.Tryz.f106
def PS:=Aj AAt
theorem AOe:AAt=some PS:=AZ (by kernel_rfl)
abbrev AAM:=tr [(8,8),(13,17),(19,22)] false [] 0 Proofs.Tryz.f107
def RY:=Aj AAM
theorem AIV:AAM=some RY:=AZ (by kernel_rfl)
abbrev ABQ:=tr [(8,10),(15,19),(21,24)] false [] 0 Proofs.Tryz.f108
def Rq:=Aj ABQ
theorem ANU:ABQ=some Rq:=AZ (by kernel_rfl)
abbrev AC8:=tr [(9,9),(11,20)] false [] 0 Proofs.Tryz.f109
def Ou:=Aj AC8
theorem AJ7:AC8=some Ou:=AZ (by kernel_rfl)
abbrev AFp:=tr [(8,12),(14,14),(33,38),(43,45),(53,58),(60,65),(68,68),(82,90),(92,92),(113,114),(120,129),(131,131),(149,149),(155,155)] false [(3,Iu [0,1,2,3,4,5,6,7,8,9,10,11,13,14,12,15,16,17]),(9,Bg 8),(16,Iu [0,1,2,3,4,5,6,7,8,10,11,9,12]),(19,Iu [0,1,2,3,4,5,6,7,8,9,10,11,13,14,15,16,17,12,18]),(22,Bg 5),(26,Iu [0,1,2,3,4,5,6,7,8,9,10,11,13,14,12,15]),(28,Bg 5)] 0 Proofs.Tryz.f110
def Rt:=Aj AFp
theorem AJ4:AFp=some Rt:=AZ (by kernel_rfl)
abbrev zA:=tr [(10,12),(14,29),(31,34),(36,53),(55,62)] false [] 0 Proofs.Tryz.f111
def P9:=Aj zA
theorem ALp:zA=some P9:=AZ (by kernel_rfl)
abbrev zl:=tr [(5,7)] false [] 0 Proofs.Tryz.f112
def Oy:=Aj zl
theorem AHX:zl=some Oy:=AZ (by kernel_rfl)
abbrev ADI:=tr [(29,43)] false [(1,Iu [0,1,2,3,4,5,6,7,9,10,11,12,13,14,15,16,17,18,8,19,20,21,22,23,24,25])] 0 Proofs.Tryz.f113
def Ri:=Aj ADI
theorem AIt:ADI=some Ri:=AZ (by kernel_rfl)
abbrev AAI:=tr [(7,11),(16,21)] false [(6,Bg 20)] 0 Proofs.Tryz.f114
def QC:=Aj AAI
theorem AJT:AAI=some QC:=AZ (by kernel_rfl)
abbrev AD8:=tr [(2,3),(11,21),(29,32)] false [(1,Bg 7),(3,Bg 7)] 0 Proofs.Tryz.f115
def Rj:=Aj AD8
theorem ANm:AD8=some Rj:=AZ (by kernel_rfl)
abbrev AB3:=tr [(3,5)] false [] 0 Proofs.Tryz.f116
def Qv:=Aj AB3
theorem AN8:AB3=some Qv:=AZ (by kernel_rfl)
abbrev AFU:=tr [(3,10)] false [] 0 Proofs.Tryz.f117
def Ro:=Aj AFU
theorem AGv:AFU=some Ro:=AZ (by kernel_rfl)
abbrev AA6:=tr [(3,6)] false [] 0 Proofs.Tryz.f118
def Oo:=Aj AA6
theorem AHB:AA6=some Oo:=AZ (by kernel_rfl)
abbrev AFP:=tr [(3,8)] false [] 0 Proofs.Tryz.f119
def Qn:=Aj AFP
theorem AKB:AFP=some Qn:=AZ (by kernel_rfl)
abbrev ACq:=tr [(3,4),(6,9)] false [] 0 Proofs.Tryz.f120
def Qh:=Aj ACq
theorem ALU:ACq=some Qh:=AZ (by kernel_rfl)
abbrev ADr:=tr [(7,11),(13,17),(19,23),(25,29),(31,35),(37,39),(41,44)] false [] 0 Proofs.Tryz.f121
def RQ:=Aj ADr
theorem AN1:ADr=some RQ:=AZ (by kernel_rfl)
abbrev AFi:=tr [(10,13),(22,22),(31,31),(33,38),(48,48),(50,52)] false [(3,Bg 8),(5,Bg 8),(8,Bg 10)] 0 Proofs.Tryz.f122
def QH:=Aj AFi
theorem AMi:AFi=some QH:=AZ (by kernel_rfl)
abbrev ABS:=tr [(3,3),(5,7)] false [] 0 Proofs.Tryz.f123
def RN:=Aj ABS
theorem AHt:ABS=some RN:=AZ (by kernel_rfl)
abbrev ABf:=tr [(1,1)] false [] 0 Proofs.Tryz.f124
def Qy:=Aj ABf
theorem AJ1:ABf=some Qy:=AZ (by kernel_rfl)
abbrev AFT:=tr [] false [(1,Bg 11),(2,Bg 12)] 0 Proofs.Tryz.f125
def Qj:=Aj AFT
theorem AIM:AFT=some Qj:=AZ (by kernel_rfl)
abbrev AAC:=tr [(1,1)] false [] 0 Proofs.Tryz.f126
def Rh:=Aj AAC
theorem APA:AAC=some Rh:=AZ (by kernel_rfl)
abbrev AEY:=tr [(6,12),(14,31)] false [] 0 Proofs.Tryz.f127
def O4:=Aj AEY
theorem AJt:AEY=some O4:=AZ (by kernel_rfl)
abbrev AEn:=tr [(9,12),(14,21),(46,54)] false [(5,Bg 24)] 0 Proofs.Tryz.f128
def Qo:=Aj AEn
theorem AHM:AEn=some Qo:=AZ (by kernel_rfl)
abbrev AGZ:=tr [] false [(1,Bg 12)] 0 Proofs.Tryz.f129
def PY:=Aj AGZ
theorem AOI:AGZ=some PY:=AZ (by kernel_rfl)
abbrev AAL:=tr [(13,13),(16,16),(32,32),(67,76),(106,106),(117,131),(133,133),(155,156),(167,172),(174,194),(196,205)] false [(3,Bg 15),(5,Bg 34),(11,Bg 12),(12,Bg 17),(14,Bg 12),(17,Bg 12),(18,Iu [0,1,2,3,5,6,7,4,8,9,10]),(21,Bg 12)] 0 Proofs.Tryz.f130
def Rw:=Aj AAL
theorem AIf:AAL=some Rw:=AZ (by kernel_rfl)
abbrev AAW:=tr [(9,12),(14,43)] false [] 0 Proofs.Tryz.f131
def QM:=Aj AAW
theorem AKW:AAW=some QM:=AZ (by kernel_rfl)
abbrev AFb:=tr [(7,7),(11,20),(25,42)] false [] 0 Proofs.Tryz.f132
def P7:=Aj AFb
theorem AL8:AFb=some P7:=AZ (by kernel_rfl)
abbrev AAb:=tr [(8,17)] false [] 0 Proofs.Tryz.f133
def Rf:=Aj AAb
theorem AH6:AAb=some Rf:=AZ (by kernel_rfl)
abbrev zF:=tr [(11,16),(18,29),(31,39),(61,75),(77,89),(91,98)] false [(10,Bg 12),(11,Bg 11),(17,Bg 12)] 0 Proofs.Tryz.f134
def PL:=Aj zF
theorem AH4:zF=some PL:=AZ (by kernel_rfl)
abbrev ADQ:=tr [(5,17)] false [] 0 Proofs.Tryz.f135
def QB:=Aj ADQ
theorem AGr:ADQ=some QB:=AZ (by kernel_rfl)
abbrev AD2:=tr [(5,7)] false [] 0 Proofs.Tryz.f136
def Pq:=Aj AD2
theorem AOs:AD2=some Pq:=AZ (by kernel_rfl)
abbrev AAc:=tr [(3,13),(15,17)] false [] 0 Proofs.Tryz.f137
def Py:=Aj AAc
theorem AHl:AAc=some Py:=AZ (by kernel_rfl)
abbrev zf:=tr [(4,13),(15,30),(32,36),(38,48),(50,56),(58,68)] false [] 0 Proofs.Tryz.f138
def Ol:=Aj zf
theorem AIB:zf=some Ol:=AZ (by kernel_rfl)
abbrev AEJ:=tr [(10,12),(14,29),(31,34),(36,53),(55,62)] false [] 0 Proofs.Tryz.f139
def Ov:=Aj AEJ
theorem AOO:AEJ=some Ov:=AZ (by kernel_rfl)
abbrev ACQ:=tr [(10,12),(14,29),(31,34),(36,53),(55,62)] false [] 0 Proofs.Tryz.f140
def Oq:=Aj ACQ
theorem AJg:ACQ=some Oq:=AZ (by kernel_rfl)
abbrev AEp:=tr [(6,10),(12,17)] false [] 0 Proofs.Tryz.f141
def PG:=Aj AEp
theorem AOP:AEp=some PG:=AZ (by kernel_rfl)
abbrev ADs:=tr [(3,3),(5,7)] false [] 0 Proofs.Tryz.f142
def Ox:=Aj ADs
theorem AIw:ADs=some Ox:=AZ (by kernel_rfl)
abbrev AAO:=tr [(7,8),(10,11),(13,14),(16,18),(20,23),(25,27),(29,29),(40,46),(48,48),(58,64),(66,70),(72,72),(85,87),(89,89),(107,111),(113,113),(133,139),(141,141),(155,157)] false [(13,Bg 10),(16,Iu [0,1,2,3,4,9,5,6,7,8,10,11]),(24,Iu [0,1,2,3,4,5,6,7,9,10,8,11]),(27,Bg 5),(28,Iu [0,1,2,3,4,5,6,7,9,10,8,11]),(31,Bg 13),(32,Bg 6),(35,Bg 13)] 0 Proofs.Tryz.f143
def RP:=Aj AAO
theorem AHa:AAO=some RP:=AZ (by kernel_rfl)
abbrev ADv:=tr [(8,10),(15,30)] false [(3,Bg 4)] 0 Proofs.Tryz.f144
def Pn:=Aj ADv
theorem AIN:ADv=some Pn:=AZ (by kernel_rfl)
abbrev AGU:=tr [(13,14),(24,24)] false [(4,Bg 9)] 0 Proofs.Tryz.f145
def P8:=Aj AGU
theorem AMI:AGU=some P8:=AZ (by kernel_rfl)
abbrev AC1:=tr [(10,13),(15,17),(35,36)] false [(4,Bg 17),(6,Bg 18)] 0 Proofs.Tryz.f146
def RF:=Aj AC1
theorem ANP:AC1=some RF:=AZ (by kernel_rfl)
abbrev ACa:=tr [(25,27),(29,32),(34,39),(51,57),(59,60),(77,79),(81,84),(86,91),(104,109),(111,112),(129,139),(141,150),(152,157),(172,184),(186,198),(200,212),(214,219)] false [(5,Bg 11),(11,Bg 18),(17,Bg 12),(23,Bg 18),(35,Bg 14)] 0 Proofs.Tryz.f147
def Qs:=Aj ACa
theorem ANc:ACa=some Qs:=AZ (by kernel_rfl)
abbrev AER:=tr [(8,15),(27,33),(36,45),(47,49),(51,53),(55,57),(59,71),(73,91)] false [(3,Bg 10)] 0 Proofs.Tryz.f149
def Om:=Aj AER
theorem AKg:AER=some Om:=AZ (by kernel_rfl)
abbrev ACW:=tr [(9,30),(45,51)] false [(3,Bg 15)] 0 Proofs.Tryz.f150
def O9:=Aj ACW
theorem AHN:ACW=some O9:=AZ (by kernel_rfl)
abbrev AA1:=tr [(8,13),(15,18),(27,27)] false [(4,Bg 9)] 0 Proofs.Tryz.f151
def Pj:=Aj AA1
theorem AOF:AA1=some Pj:=AZ (by kernel_rfl)
abbrev ACK:=tr [(5,7)] false [] 0 Proofs.Tryz.f152
def QE:=Aj ACK
theorem AJP:ACK=some QE:=AZ (by kernel_rfl)
abbrev ADn:=tr [(8,8),(11,16),(21,25),(27,28)] false [] 0 Proofs.Tryz.f153
def QG:=Aj ADn
theorem ALz:ADn=some QG:=AZ (by kernel_rfl)
abbrev AGL:=tr [(10,11),(13,17),(44,45)] false [(3,Bg 17),(4,Bg 12),(6,Iu [0,1,2,3,4,5,7,6,8,9,10,11,12]),(7,Bg 18)] 0 Proofs.Tryz.f154
def PI:=Aj AGL
theorem AOk:AGL=some PI:=AZ (by kernel_rfl)
abbrev ACT:=tr [(8,9),(11,11),(15,39),(44,49),(51,54)] false [] 0 Proofs.Tryz.f155
def Px:=Aj ACT
theorem AHk:ACT=some Px:=AZ (by kernel_rfl)
abbrev AAF:=tr [(1,7)] false [] 0 Proofs.Tryz.f157
def Qx:=Aj AAF
theorem APE:AAF=some Qx:=AZ (by kernel_rfl)
abbrev AAX:=tr [(3,7)] true [] 157 Proofs.Tryz.f158
def Qc:=Aj AAX
theorem AOy:AAX=some Qc:=AZ (by kernel_rfl)
abbrev zD:=tr [(4,24),(26,27),(29,36)] true [] 157 Proofs.Tryz.f159
def QT:=Aj zD
theorem AMf:zD=some QT:=AZ (by kernel_rfl)
abbrev ACV:=tr [(5,6),(15,17),(19,25),(27,40),(42,46)] false [(1,Bg 10),(8,Bg 16)] 0 Proofs.Tryz.f160
def QD:=Aj ACV
theorem AJq:ACV=some QD:=AZ (by kernel_rfl)
abbrev AFw:=tr [(10,13),(15,17),(35,36)] false [(4,Bg 17),(6,Bg 18)] 0 Proofs.Tryz.f161
def PW:=Aj AFw
theorem ALy:AFw=some PW:=AZ (by kernel_rfl)
abbrev ACz:=tr [(25,27),(29,32),(34,39),(51,57),(59,60),(77,79),(81,84),(86,91),(104,109),(111,112),(129,139),(141,150),(152,157),(172,184),(186,198),(200,212),(214,219)] false [(5,Bg 11),(11,Bg 18),(17,Bg 12),(23,Bg 18),(35,Bg 14)] 0 Proofs.Tryz.f162
def Ql:=Aj ACz
theorem AME:ACz=some Ql:=AZ (by kernel_rfl)
abbrev y8:=tr [(10,13),(15,17),(35,36)] false [(4,Bg 17),(6,Bg 18)] 0 Proofs.Tryz.f163
def QK:=Aj y8
theorem AMs:y8=some QK:=AZ (by kernel_rfl)
abbrev ADw:=tr [(25,27),(29,32),(34,39),(51,57),(59,60),(77,79),(81,84),(86,91),(104,109),(111,112),(129,139),(141,150),(152,157),(172,184),(186,198),(200,212),(214,219)] false [(5,Bg 11),(11,Bg 18),(17,Bg 12),(23,Bg 18),(35,Bg 14)] 0 Proofs.Tryz.f164
def Qi:=Aj ADw
theorem ANu:ADw=some Qi:=AZ (by kernel_rfl)
abbrev ABT:=tr [(7,17),(22,24),(34,40)] false [(5,Bg 10)] 0 Proofs.Tryz.f165
def QX:=Aj ABT
theorem AIE:ABT=some QX:=AZ (by kernel_rfl)
abbrev AA4:=tr [(20,23),(63,66),(83,89),(118,123)] false [(0,Bg 11),(2,Bg 14),(3,Iu [0,1,3,4,5,6,7,8,9,2,10,11]),(4,Iu [0,1,2,3,4,5,6,8,9,10,11,7,12,13]),(6,Iu [0,1,2,3,4,5,6,7,8,9,15,10,11,12,13,14,16,17,18]),(8,Bg 10),(9,Iu [0,1,2,3,4,5,6,7,8,9,10,11,12,13,14,20,15,16,17,18,19,21,22,23]),(11,Bg 7),(12,Bg 11)] 0 Proofs.Tryz.f166
def Qz:=Aj AA4
theorem AKY:AA4=some Qz:=AZ (by kernel_rfl)
abbrev AFz:=tr [(3,5)] false [] 0 Proofs.Tryz.f167
def Qg:=Aj AFz
theorem ALb:AFz=some Qg:=AZ (by kernel_rfl)
abbrev AAw:=tr [(14,28),(30,33),(35,39),(47,50),(52,70),(78,81),(83,101),(134,144),(146,149),(151,162),(194,197)] false [(5,Bg 7),(8,Bg 7),(12,Iu [0,1,8,9,10,11,12,13,14,2,3,4,5,6,7,15]),(13,Iu [0,1,2,3,4,5,6,7,8,9,11,12,13,14,10,15]),(18,Bg 18),(19,Iu [0,1,2,3,4,5,12,13,14,15,6,7,8,9,10,11,16]),(0,Bg 7)] 0 Proofs.Tryz.f168
def Qw:=Aj AAw
theorem AOr:AAw=some Qw:=AZ (by kernel_rfl)
abbrev AEl:=tr [(12,19),(21,22),(24,57)] false [] 0 Proofs.Tryz.f169
def PO:=Aj AEl
theorem ALM:AEl=some PO:=AZ (by kernel_rfl)
abbrev AAA:=tr [(8,9),(11,11),(16,25),(44,50),(52,57)] false [(9,Bg 16)] 0 Proofs.Tryz.f170
def QV:=Aj AAA
theorem AIF:AAA=some QV:=AZ (by kernel_rfl)
abbrev AB7:=tr [(8,14),(16,19),(24,30),(33,33),(48,50),(52,54),(56,58),(60,62),(64,70),(72,77),(79,88),(90,99),(101,107),(109,109),(124,124),(142,144),(146,148),(150,152),(154,160),(162,168),(170,173)] false [(10,Bg 13),(32,Bg 13),(34,Bg 16)] 0 Proofs.Tryz.f171
def Ph:=Aj AB7
theorem AIS:AB7=some Ph:=AZ (by kernel_rfl)
abbrev AFZ:=tr [] false [(0,Bg 15)] 0 Proofs.Tryz.f172
def PN:=Aj AFZ
theorem AJd:AFZ=some PN:=AZ (by kernel_rfl)
abbrev AE4:=tr [(6,6),(10,15),(17,18)] false [] 0 Proofs.Tryz.f173
def QA:=Aj AE4
theorem AIr:AE4=some QA:=AZ (by kernel_rfl)
abbrev ADJ:=tr [(5,8)] false [] 0 Proofs.Tryz.f174
def Qk:=Aj ADJ
theorem AI2:ADJ=some Qk:=AZ (by kernel_rfl)
abbrev ADl:=tr [(11,15),(17,19),(27,27)] false [(4,Bg 8)] 0 Proofs.Tryz.f175
def PZ:=Aj ADl
theorem AL6:ADl=some PZ:=AZ (by kernel_rfl)
abbrev AB1:=tr [(2,5)] false [] 0 Proofs.Tryz.f176
def QZ:=Aj AB1
theorem AMv:AB1=some QZ:=AZ (by kernel_rfl)
abbrev AAg:=tr [(6,10),(12,13),(23,23)] false [(5,Bg 10)] 0 Proofs.Tryz.f177
def Qu:=Aj AAg
theorem AHR:AAg=some Qu:=AZ (by kernel_rfl)
abbrev AGP:=tr [(12,19),(21,22),(24,57)] false [] 0 Proofs.Tryz.f178
def RX:=Aj AGP
theorem AHh:AGP=some RX:=AZ (by kernel_rfl)
abbrev AFq:=tr [(12,19),(21,22),(24,57)] false [] 0 Proofs.Tryz.f179
def O0:=Aj AFq
theorem ALk:AFq=some O0:=AZ (by kernel_rfl)
abbrev AEW:=tr [(10,19),(25,27),(44,44)] false [(5,Iu [0,1,2,3,4,5,6,7,8,9,10,11,13,14,12,15])] 0 Proofs.Tryz.f180
def PK:=Aj AEW
theorem AIa:AEW=some PK:=AZ (by kernel_rfl)
abbrev y7:=tr [(11,12),(14,15)] false [(3,Bg 24)] 0 Proofs.Tryz.f181
def Qa:=Aj y7
theorem AH7:y7=some Qa:=AZ (by kernel_rfl)
abbrev ABE:=tr [(7,9),(14,19),(21,28)] false [] 0 Proofs.Tryz.f182
def Rk:=Aj ABE
theorem AHc:ABE=some Rk:=AZ (by kernel_rfl)
abbrev AAs:=tr [] false [(1,Bg 18)] 0 Proofs.Tryz.f183
def PV:=Aj AAs
theorem AOL:AAs=some PV:=AZ (by kernel_rfl)
abbrev AEw:=tr [(8,13),(15,18),(27,27)] false [(4,Bg 9)] 0 Proofs.Tryz.f184
def QY:=Aj AEw
theorem AIu:AEw=some QY:=AZ (by kernel_rfl)
abbrev AE1:=tr [(5,7)] false [] 0 Proofs.Tryz.f185
def RJ:=Aj AE1
theorem ANz:AE1=some RJ:=AZ (by kernel_rfl)
abbrev AAe:=tr [(14,29)] false [(1,Bg 6)] 0 Proofs.Tryz.f186
def Rl:=Aj AAe
theorem AHO:AAe=some Rl:=AZ (by kernel_rfl)
abbrev AFt:=tr [(29,32)] false [(1,Iu [0,1,2,3,4,5,6,7,8,9,10,11,12,13,19,14,15,16,17,18,20,21,22]),(3,Iu [0,1,2,3,4,5,6,7,8,10,11,12,9,13,14])] 0 Proofs.Tryz.f187
def Q7:=Aj AFt
theorem AJA:AFt=some Q7:=AZ (by kernel_rfl)
abbrev AEr:=tr [] false [(1,Bg 12)] 0 Proofs.Tryz.f188
def Q5:=Aj AEr
theorem AMj:AEr=some Q5:=AZ (by kernel_rfl)
abbrev AGR:=tr [(6,6),(9,15),(17,21),(23,33)] false [] 0 Proofs.Tryz.f189
def Rn:=Aj AGR
theorem AJ9:AGR=some Rn:=AZ (by kernel_rfl)
abbrev AEU:=tr [(2,5)] false [] 0 Proofs.Tryz.f190
def QU:=Aj AEU
theorem APa:AEU=some QU:=AZ (by kernel_rfl)
abbrev zo:=tr [(9,12),(14,15),(25,25)] false [(4,Bg 10)] 0 Proofs.Tryz.f191
def O7:=Aj zo
theorem AOV:zo=some O7:=AZ (by kernel_rfl)
abbrev AC5:=tr [(2,6)] false [] 0 Proofs.Tryz.f192
def RZ:=Aj AC5
theorem AJG:AC5=some RZ:=AZ (by kernel_rfl)
abbrev AE6:=tr [(9,15),(20,25),(27,30),(42,46),(48,51),(62,62)] true [(8,Bg 15),(16,Iu [0,1,2,3,6,7,4,5,8,9])] 157 Proofs.Tryz.f193
def Qe:=Aj AE6
theorem AL2:AE6=some Qe:=AZ (by kernel_rfl)
abbrev AFV:=tr [(11,12),(14,15)] false [(3,Bg 24)] 0 Proofs.Tryz.f194
def RH:=Aj AFV
theorem AKS:AFV=some RH:=AZ (by kernel_rfl)
abbrev ACO:=tr [(11,12),(14,15)] false [(3,Bg 24)] 0 Proofs.Tryz.f195
def Qb:=Aj ACO
theorem AMA:ACO=some Qb:=AZ (by kernel_rfl)
abbrev AD9:=tr [(8,13),(15,18),(27,27)] false [(4,Bg 9)] 0 Proofs.Tryz.f196
def QN:=Aj AD9
theorem ANb:AD9=some QN:=AZ (by kernel_rfl)
abbrev AD3:=tr [(5,7)] false [] 0 Proofs.Tryz.f197
def O8:=Aj AD3
theorem AKM:AD3=some O8:=AZ (by kernel_rfl)
abbrev AAr:=tr [(5,8)] false [] 0 Proofs.Tryz.f198
def QO:=Aj AAr
theorem AJY:AAr=some QO:=AZ (by kernel_rfl)
abbrev ABi:=tr [(2,3),(11,12)] false [(1,Bg 6)] 0 Proofs.Tryz.f199
def Pm:=Aj ABi
theorem AJh:ABi=some Pm:=AZ (by kernel_rfl)
abbrev AAa:=tr [(2,3),(5,6)] false [(2,Bg 6)] 0 Proofs.Tryz.f200
def Ru:=Aj AAa
theorem AH3:AAa=some Ru:=AZ (by kernel_rfl)
abbrev ADq:=tr [(8,13),(15,18),(27,27)] false [(4,Bg 9)] 0 Proofs.Tryz.f201
def Pg:=Aj ADq
theorem AO4:ADq=some Pg:=AZ (by kernel_rfl)
abbrev AGD:=tr [(5,16)] false [] 0 Proofs.Tryz.f202
def Qm:=Aj AGD
theorem AKx:AGD=some Qm:=AZ (by kernel_rfl)
abbrev zQ:=tr [(8,13),(15,18),(27,27)] false [(4,Bg 9)] 0 Proofs.Tryz.f203
def Qd:=Aj zQ
theorem AGw:zQ=some Qd:=AZ (by kernel_rfl)
abbrev ADu:=tr [(5,7)] false [] 0 Proofs.Tryz.f204
def QL:=Aj ADu
theorem AOg:ADu=some QL:=AZ (by kernel_rfl)
abbrev ADc:=tr [(5,14),(16,17),(24,26),(28,33)] false [(5,Bg 7)] 0 Proofs.Tryz.f205
def O6:=Aj ADc
theorem AJl:ADc=some O6:=AZ (by kernel_rfl)
abbrev AEZ:=tr [(6,6),(10,15),(17,18)] false [] 0 Proofs.Tryz.f206
def Qq:=Aj AEZ
theorem AKh:AEZ=some Qq:=AZ (by kernel_rfl)
abbrev y9:=tr [(5,8)] false [] 0 Proofs.Tryz.f207
def PE:=Aj y9
theorem AKN:y9=some PE:=AZ (by kernel_rfl)
abbrev AGM:=tr [(6,6),(10,15),(17,18)] false [] 0 Proofs.Tryz.f208
def PX:=Aj AGM
theorem AOH:AGM=some PX:=AZ (by kernel_rfl)
abbrev ABg:=tr [(5,8)] false [] 0 Proofs.Tryz.f209
def RI:=Aj ABg
theorem AMO:ABg=some RI:=AZ (by kernel_rfl)
abbrev AB5:=tr [(6,6),(10,15),(17,18)] false [] 0 Proofs.Tryz.f210
def Pz:=Aj AB5
theorem AJL:AB5=some Pz:=AZ (by kernel_rfl)
abbrev AEG:=tr [(5,8)] false [] 0 Proofs.Tryz.f211
def Q8:=Aj AEG
theorem AKw:AEG=some Q8:=AZ (by kernel_rfl)
abbrev ABD:=tr [(5,15),(17,20),(22,26),(32,36),(42,59),(61,63),(65,67),(69,71),(73,75),(77,83),(85,95),(97,98),(100,107)] false [(8,Bg 6),(11,Bg 6)] 0 Proofs.Tryz.f212
def PU:=Aj ABD
theorem ANL:ABD=some PU:=AZ (by kernel_rfl)
abbrev ACH:=tr [(8,8),(10,18),(20,24)] false [(6,Bg 9)] 0 Proofs.Tryz.f213
def O5:=Aj ACH
theorem AKi:ACH=some O5:=AZ (by kernel_rfl)
abbrev ABU:=tr [(4,12),(14,15),(17,29)] false [] 0 Proofs.Tryz.f214
def Ot:=Aj ABU
theorem APH:ABU=some Ot:=AZ (by kernel_rfl)
def F:T AF:=(.n none (.n none (.n (some oC) (.n (some l9) (.n (some aN) (.n (some bC) (.n (some Zg) (.n (some O4) .e .e) (.n (some O7) .e .e)) (.n (some ZQ) (.n (some QT) .e .e) .e)) (.n (some Yq) (.n (some bD) (.n (some RP) .e .e) (.n (some PE) .e .e)) (.n (some P9) (.n (some PZ) .e .e) .e))) (.n (some Zm) (.n (some aT) (.n (some aQ) (.n (some QB) .e .e) (.n (some Pm) .e .e)) (.n (some RG) (.n (some Qg) .e .e) .e)) (.n (some Y5) (.n (some ZK) (.n (some Pj) .e .e) .e) (.n (some Qn) (.n (some PV) .e .e) .e)))) (.n (some bF) (.n (some Zj) (.n (some Ye) (.n (some Yc) (.n (some QM) .e .e) (.n (some Qb) .e .e)) (.n (some Yy) (.n (some QK) .e .e) .e)) (.n (some ak) (.n (some Y6) (.n (some Qs) .e .e) (.n (some Q8) .e .e)) (.n (some Rj) (.n (some O0) .e .e) .e))) (.n (some ZX) (.n (some ZA) (.n (some bV) (.n (some Ov) .e .e) (.n (some Qd) .e .e)) (.n (some RY) (.n (some Ph) .e .e) .e)) (.n (some ZE) (.n (some Yg) (.n (some Px) .e .e) .e) (.n (some RN) (.n (some Q7) .e .e) .e))))) (.n (some oV) (.n (some mG) (.n (some bM) (.n (some ZR) (.n (some aS) (.n (some PY) .e .e) (.n (some Qe) .e .e)) (.n (some Zi) (.n (some PW) .e .e) .e)) (.n (some aX) (.n (some bG) (.n (some P8) .e .e) (.n (some RI) .e .e)) (.n (some Ri) (.n (some Qu) .e .e) .e))) (.n (some Yd) (.n (some Y4) (.n (some bH) (.n (some Py) .e .e) (.n (some Pg) .e .e)) (.n (some RD) (.n (some PO) .e .e) .e)) (.n (some Yp) (.n (some Zx) (.n (some QG) .e .e) .e) (.n (some RQ) (.n (some RJ) .e .e) .e)))) (.n (some Yv) (.n (some Yn) (.n (some aF) (.n (some Yj) (.n (some Rf) .e .e) (.n (some O8) .e .e)) (.n (some Qr) (.n (some QX) .e .e) .e)) (.n (some Zk) (.n (some aj) (.n (some Om) .e .e) (.n (some O5) .e .e)) (.n (some Ro) (.n (some Qa) .e .e) .e))) (.n (some YZ) (.n (some Yi) (.n (some dB) (.n (some PG) .e .e) (.n (some O6) .e .e)) (.n (some Ou) (.n (some QA) .e .e) .e)) (.n (some cZ) (.n (some Yw) (.n (some Qx) .e .e) .e) (.n (some Qj) (.n (some Rn) .e .e) .e)))))) (.n none (.n (some nR) (.n (some mO) (.n (some bg) (.n (some bW) (.n (some aO) (.n (some Qo) .e .e) (.n (some RZ) .e .e)) (.n (some bf) (.n (some QD) .e .e) .e)) (.n (some Z4) (.n (some Za) (.n (some Pn) .e .e) (.n (some PX) .e .e)) (.n (some Oy) (.n (some QZ) .e .e) .e))) (.n (some bK) (.n (some Ya) (.n (some dA) (.n (some Pq) .e .e) (.n (some Ru) .e .e)) (.n (some O1) (.n (some Qw) .e .e) .e)) (.n (some aH) (.n (some ZF) (.n (some QE) .e .e) .e) (.n (some Qh) (.n (some QY) .e .e) .e)))) (.n (some Yr) (.n (some Y0) (.n (some aC) (.n (some ZJ) (.n (some P7) .e .e) (.n (some QN) .e .e)) (.n (some Po) (.n (some Qi) .e .e) .e)) (.n (some ay) (.n (some Y3) .e (.n (some PU) .e .e)) (.n (some Qv) (.n (some PK) .e .e) .e))) (.n (some Yx) (.n (some Yt) (.n (some aW) (.n (some Oq) .e .e) (.n (some QL) .e .e)) (.n (some Rq) (.n (some PN) .e .e) .e)) (.n (some aU) (.n (some Yl) .e .e) (.n (some Qy) (.n (some Q5) .e .e) .e))))) (.n (some nX) (.n (some Y7) (.n (some YS) (.n (some YX) (.n (some Zw) (.n (some Rw) .e .e) (.n (some RH) .e .e)) (.n (some Zu) (.n (some Ql) .e .e) .e)) (.n (some Zf) (.n (some Z8) (.n (some RF) .e .e) (.n (some Pz) .e .e)) (.n (some QC) (.n (some RX) .e .e) .e))) (.n (some Zo) (.n (some ZN) (.n (some ZI) (.n (some Ol) .e .e) (.n (some Qm) .e .e)) (.n (some PS) (.n (some QV) .e .e) .e)) (.n (some YT) (.n (some bQ) (.n (some PI) .e .e) .e) (.n (some QH) (.n (some Rl) .e .e) .e)))) (.n (some aV) (.n (some Zz) (.n (some Yb) (.n (some ZW) (.n (some PL) .e .e) (.n (some QO) .e .e)) (.n (some QI) (.n (some Qz) .e .e) .e)) (.n (some aY) (.n (some YU) (.n (some O9) .e .e) (.n (some Ot) .e .e)) (.n (some Oo) (.n (some Rk) .e .e) .e))) (.n (some Ym) (.n (some Zn) (.n (some bI) (.n (some Ox) .e .e) (.n (some Qq) .e .e)) (.n (some Rt) (.n (some Qk) .e .e) .e)) (.n (some aZ) (.n (some bn) (.n (some Qc) .e .e) .e) (.n (some Rh) (.n (some QU) .e .e) .e)))))))
theorem AgS:T.get F 3=some oC:=by kernel_rfl
theorem Abv:T.get F 4=some nR:=by kernel_rfl
theorem Aci:T.get F 5=some oV:=by kernel_rfl
theorem Aar:T.get F 6=some nX:=by kernel_rfl
theorem AdU:T.get F 7=some l9:=by kernel_rfl
theorem Adg:T.get F 8=some mO:=by kernel_rfl
theorem Ab5:T.get F 9=some mG:=by kernel_rfl
theorem AZx:T.get F 10=some Y7:=by kernel_rfl
theorem AZ7:T.get F 11=some bF:=by kernel_rfl
theorem AaH:T.get F 12=some Yr:=by kernel_rfl
theorem AXk:T.get F 13=some Yv:=by kernel_rfl
theorem AVw:T.get F 14=some aV:=by kernel_rfl
theorem AVL:T.get F 15=some aN:=by kernel_rfl
theorem ATj:T.get F 16=some bg:=by kernel_rfl
theorem AZJ:T.get F 17=some bM:=by kernel_rfl
theorem AV2:T.get F 18=some YS:=by kernel_rfl
theorem AWZ:T.get F 19=some Zj:=by kernel_rfl
theorem AUj:T.get F 20=some Y0:=by kernel_rfl
theorem AUT:T.get F 21=some Yn:=by kernel_rfl
theorem AYk:T.get F 22=some Zz:=by kernel_rfl
theorem AWR:T.get F 23=some Zm:=by kernel_rfl
theorem AZU:T.get F 24=some bK:=by kernel_rfl
theorem AYi:T.get F 25=some Yd:=by kernel_rfl
theorem AZz:T.get F 26=some Zo:=by kernel_rfl
theorem AWt:T.get F 27=some ZX:=by kernel_rfl
theorem AVi:T.get F 28=some Yx:=by kernel_rfl
theorem ATP:T.get F 29=some YZ:=by kernel_rfl
theorem AZI:T.get F 30=some Ym:=by kernel_rfl
theorem AUy:T.get F 31=some bC:=by kernel_rfl
theorem AXt:T.get F 32=some bW:=by kernel_rfl
theorem AXj:T.get F 33=some ZR:=by kernel_rfl
theorem AUw:T.get F 34=some YX:=by kernel_rfl
theorem AV9:T.get F 35=some Ye:=by kernel_rfl
theorem ATt:T.get F 36=some aC:=by kernel_rfl
theorem ATJ:T.get F 37=some aF:=by kernel_rfl
theorem AUH:T.get F 38=some Yb:=by kernel_rfl
theorem AXA:T.get F 39=some aT:=by kernel_rfl
theorem AZg:T.get F 40=some Ya:=by kernel_rfl
theorem AZc:T.get F 41=some Y4:=by kernel_rfl
theorem AZG:T.get F 42=some ZN:=by kernel_rfl
theorem AZW:T.get F 43=some ZA:=by kernel_rfl
theorem AZr:T.get F 44=some Yt:=by kernel_rfl
theorem ATV:T.get F 45=some Yi:=by kernel_rfl
theorem AYQ:T.get F 46=some Zn:=by kernel_rfl
theorem AXc:T.get F 47=some Yq:=by kernel_rfl
theorem AVe:T.get F 48=some Z4:=by kernel_rfl
theorem AVm:T.get F 49=some aX:=by kernel_rfl
theorem AXd:T.get F 50=some Zf:=by kernel_rfl
theorem AYu:T.get F 51=some ak:=by kernel_rfl
theorem AXw:T.get F 52=some ay:=by kernel_rfl
theorem AZA:T.get F 53=some Zk:=by kernel_rfl
theorem AYe:T.get F 54=some aY:=by kernel_rfl
theorem AWJ:T.get F 55=some Y5:=by kernel_rfl
theorem ATn:T.get F 56=some aH:=by kernel_rfl
theorem AXT:T.get F 57=some Yp:=by kernel_rfl
theorem AVd:T.get F 58=some YT:=by kernel_rfl
theorem ATO:T.get F 59=some ZE:=by kernel_rfl
theorem AXb:T.get F 60=some aU:=by kernel_rfl
theorem AUv:T.get F 61=some cZ:=by kernel_rfl
theorem ATh:T.get F 62=some aZ:=by kernel_rfl
theorem AWh:T.get F 63=some Zg:=by kernel_rfl
theorem AZB:T.get F 64=some aO:=by kernel_rfl
theorem AVE:T.get F 65=some aS:=by kernel_rfl
theorem AXu:T.get F 66=some Zw:=by kernel_rfl
theorem AW9:T.get F 67=some Yc:=by kernel_rfl
theorem AWw:T.get F 68=some ZJ:=by kernel_rfl
theorem AUD:T.get F 69=some Yj:=by kernel_rfl
theorem AVT:T.get F 70=some ZW:=by kernel_rfl
theorem ATR:T.get F 71=some aQ:=by kernel_rfl
theorem AWc:T.get F 72=some dA:=by kernel_rfl
theorem AYU:T.get F 73=some bH:=by kernel_rfl
theorem AYE:T.get F 74=some ZI:=by kernel_rfl
theorem ATY:T.get F 75=some bV:=by kernel_rfl
theorem ATu:T.get F 76=some aW:=by kernel_rfl
theorem AU2:T.get F 77=some dB:=by kernel_rfl
theorem AUh:T.get F 78=some bI:=by kernel_rfl
theorem AU7:T.get F 79=some bD:=by kernel_rfl
theorem AYq:T.get F 80=some Za:=by kernel_rfl
theorem AZC:T.get F 81=some bG:=by kernel_rfl
theorem ATH:T.get F 82=some Z8:=by kernel_rfl
theorem AYx:T.get F 83=some Y6:=by kernel_rfl
theorem AYo:T.get F 84=some Y3:=by kernel_rfl
theorem AVq:T.get F 85=some aj:=by kernel_rfl
theorem AXR:T.get F 86=some YU:=by kernel_rfl
theorem ATa:T.get F 87=some ZK:=by kernel_rfl
theorem AWq:T.get F 88=some ZF:=by kernel_rfl
theorem AZn:T.get F 89=some Zx:=by kernel_rfl
theorem AW7:T.get F 90=some bQ:=by kernel_rfl
theorem AZS:T.get F 91=some Yg:=by kernel_rfl
theorem AV0:T.get F 92=some Yl:=by kernel_rfl
theorem AZf:T.get F 93=some Yw:=by kernel_rfl
theorem AaI:T.get F 94=some bn:=by kernel_rfl
theorem AYT:T.get F 95=some ZQ:=by kernel_rfl
theorem AX5:T.get F 96=some bf:=by kernel_rfl
theorem AWO:T.get F 97=some Zi:=by kernel_rfl
theorem AXv:T.get F 98=some Zu:=by kernel_rfl
theorem AZP:T.get F 99=some Yy:=by kernel_rfl
theorem ANR:T.get F 100=some Po:=by kernel_rfl
theorem AHz:T.get F 101=some Qr:=by kernel_rfl
theorem AJy:T.get F 102=some QI:=by kernel_rfl
theorem AOc:T.get F 103=some RG:=by kernel_rfl
theorem AOh:T.get F 104=some O1:=by kernel_rfl
theorem AMF:T.get F 105=some RD:=by kernel_rfl
theorem AGt:T.get F 106=some PS:=by kernel_rfl
theorem ALF:T.get F 107=some RY:=by kernel_rfl
theorem APf:T.get F 108=some Rq:=by kernel_rfl
theorem AJV:T.get F 109=some Ou:=by kernel_rfl
theorem AHY:T.get F 110=some Rt:=by kernel_rfl
theorem AON:T.get F 111=some P9:=by kernel_rfl
theorem ALx:T.get F 112=some Oy:=by kernel_rfl
theorem ALX:T.get F 113=some Ri:=by kernel_rfl
theorem AOm:T.get F 114=some QC:=by kernel_rfl
theorem AIs:T.get F 115=some Rj:=by kernel_rfl
theorem AK0:T.get F 116=some Qv:=by kernel_rfl
theorem AJM:T.get F 117=some Ro:=by kernel_rfl
theorem AMK:T.get F 118=some Oo:=by kernel_rfl
theorem AGy:T.get F 119=some Qn:=by kernel_rfl
theorem AIW:T.get F 120=some Qh:=by kernel_rfl
theorem AMJ:T.get F 121=some RQ:=by kernel_rfl
theorem AJc:T.get F 122=some QH:=by kernel_rfl
theorem ANH:T.get F 123=some RN:=by kernel_rfl
theorem AJu:T.get F 124=some Qy:=by kernel_rfl
theorem AJe:T.get F 125=some Qj:=by kernel_rfl
theorem AG5:T.get F 126=some Rh:=by kernel_rfl
theorem AHL:T.get F 127=some O4:=by kernel_rfl
theorem AJj:T.get F 128=some Qo:=by kernel_rfl
theorem AHJ:T.get F 129=some PY:=by kernel_rfl
theorem AN2:T.get F 130=some Rw:=by kernel_rfl
theorem AOa:T.get F 131=some QM:=by kernel_rfl
theorem AHK:T.get F 132=some P7:=by kernel_rfl
theorem AMQ:T.get F 133=some Rf:=by kernel_rfl
theorem AOq:T.get F 134=some PL:=by kernel_rfl
theorem AKD:T.get F 135=some QB:=by kernel_rfl
theorem AHE:T.get F 136=some Pq:=by kernel_rfl
theorem AJm:T.get F 137=some Py:=by kernel_rfl
theorem AJQ:T.get F 138=some Ol:=by kernel_rfl
theorem AIH:T.get F 139=some Ov:=by kernel_rfl
theorem APB:T.get F 140=some Oq:=by kernel_rfl
theorem ANM:T.get F 141=some PG:=by kernel_rfl
theorem AN6:T.get F 142=some Ox:=by kernel_rfl
theorem AKr:T.get F 143=some RP:=by kernel_rfl
theorem ANw:T.get F 144=some Pn:=by kernel_rfl
theorem AOK:T.get F 145=some P8:=by kernel_rfl
theorem AN7:T.get F 146=some RF:=by kernel_rfl
theorem AK6:T.get F 147=some Qs:=by kernel_rfl
theorem AJN:T.get F 149=some Om:=by kernel_rfl
theorem AMG:T.get F 150=some O9:=by kernel_rfl
theorem AMM:T.get F 151=some Pj:=by kernel_rfl
theorem AO9:T.get F 152=some QE:=by kernel_rfl
theorem ALY:T.get F 153=some QG:=by kernel_rfl
theorem ANn:T.get F 154=some PI:=by kernel_rfl
theorem APD:T.get F 155=some Px:=by kernel_rfl
theorem J3:T.get F 157=some Qx:=by kernel_rfl
theorem ALn:T.get F 158=some Qc:=by kernel_rfl
theorem ALG:T.get F 159=some QT:=by kernel_rfl
theorem AHI:T.get F 160=some QD:=by kernel_rfl
theorem AJH:T.get F 161=some PW:=by kernel_rfl
theorem AJ8:T.get F 162=some Ql:=by kernel_rfl
theorem AI3:T.get F 163=some QK:=by kernel_rfl
theorem AID:T.get F 164=some Qi:=by kernel_rfl
theorem AIk:T.get F 165=some QX:=by kernel_rfl
theorem AMa:T.get F 166=some Qz:=by kernel_rfl
theorem AHe:T.get F 167=some Qg:=by kernel_rfl
theorem ALT:T.get F 168=some Qw:=by kernel_rfl
theorem AJn:T.get F 169=some PO:=by kernel_rfl
theorem AMN:T.get F 170=some QV:=by kernel_rfl
theorem AG2:T.get F 171=some Ph:=by kernel_rfl
theorem AKV:T.get F 172=some PN:=by kernel_rfl
theorem AOX:T.get F 173=some QA:=by kernel_rfl
theorem AKu:T.get F 174=some Qk:=by kernel_rfl
theorem AOl:T.get F 175=some PZ:=by kernel_rfl
theorem APC:T.get F 176=some QZ:=by kernel_rfl
theorem AHg:T.get F 177=some Qu:=by kernel_rfl
theorem AOJ:T.get F 178=some RX:=by kernel_rfl
theorem AHC:T.get F 179=some O0:=by kernel_rfl
theorem AOC:T.get F 180=some PK:=by kernel_rfl
theorem ANj:T.get F 181=some Qa:=by kernel_rfl
theorem APM:T.get F 182=some Rk:=by kernel_rfl
theorem APd:T.get F 183=some PV:=by kernel_rfl
theorem AJ5:T.get F 184=some QY:=by kernel_rfl
theorem AOv:T.get F 185=some RJ:=by kernel_rfl
theorem ANA:T.get F 186=some Rl:=by kernel_rfl
theorem AIb:T.get F 187=some Q7:=by kernel_rfl
theorem APJ:T.get F 188=some Q5:=by kernel_rfl
theorem AM7:T.get F 189=some Rn:=by kernel_rfl
theorem AMB:T.get F 190=some QU:=by kernel_rfl
theorem AGn:T.get F 191=some O7:=by kernel_rfl
theorem AMX:T.get F 192=some RZ:=by kernel_rfl
theorem AHq:T.get F 193=some Qe:=by kernel_rfl
theorem AN5:T.get F 194=some RH:=by kernel_rfl
theorem AKn:T.get F 195=some Qb:=by kernel_rfl
theorem AO8:T.get F 196=some QN:=by kernel_rfl
theorem AOU:T.get F 197=some O8:=by kernel_rfl
theorem AH2:T.get F 198=some QO:=by kernel_rfl
theorem AIj:T.get F 199=some Pm:=by kernel_rfl
theorem AOS:T.get F 200=some Ru:=by kernel_rfl
theorem ANW:T.get F 201=some Pg:=by kernel_rfl
theorem AMS:T.get F 202=some Qm:=by kernel_rfl
theorem AIo:T.get F 203=some Qd:=by kernel_rfl
theorem AIg:T.get F 204=some QL:=by kernel_rfl
theorem APZ:T.get F 205=some O6:=by kernel_rfl
theorem ANE:T.get F 206=some Qq:=by kernel_rfl
theorem AGq:T.get F 207=some PE:=by kernel_rfl
theorem ALJ:T.get F 208=some PX:=by kernel_rfl
theorem AKK:T.get F 209=some RI:=by kernel_rfl
theorem AMW:T.get F 210=some Pz:=by kernel_rfl
theorem AJs:T.get F 211=some Q8:=by kernel_rfl
theorem ALr:T.get F 212=some PU:=by kernel_rfl
theorem AOw:T.get F 213=some O5:=by kernel_rfl
theorem AH9:T.get F 214=some Ot:=by kernel_rfl
abbrev BO(n:Nat)(a:AF):Prop:=JU Go.Proofs.Tryz.prog F n a
theorem AH8:BO 3 oC:=.one Proofs.Tryz.func3 (by kernel_rfl) Adv (by kernel_rfl) (by kernel_rfl)
theorem AIP:BO 4 nR:=.one Proofs.Tryz.func4 (by kernel_rfl) Abc (by kernel_rfl) (by kernel_rfl)
theorem AKv:BO 5 oV:=.one Proofs.Tryz.func5 (by kernel_rfl) Aa9 (by kernel_rfl) (by kernel_rfl)
theorem ALg:BO 6 nX:=.one Proofs.Tryz.func6 (by kernel_rfl) AdS (by kernel_rfl) (by kernel_rfl)
theorem AM3:BO 7 l9:=.one Proofs.Tryz.func7 (by kernel_rfl) AbP (by kernel_rfl) (by kernel_rfl)
theorem AHj:BO 8 mO:=.one Proofs.Tryz.func8 (by kernel_rfl) Abx (by kernel_rfl) (by kernel_rfl)
theorem APU:BO 9 mG:=.one Proofs.Tryz.func9 (by kernel_rfl) Aa0 (by kernel_rfl) (by kernel_rfl)
theorem ADP:BO 10 Y7:=.one Proofs.Tryz.func10 (by kernel_rfl) AXO (by kernel_rfl) (by kernel_rfl)
theorem AE7:BO 11 bF:=.one Proofs.Tryz.func11 (by kernel_rfl) AZq (by kernel_rfl) (by kernel_rfl)
theorem ABA:BO 12 Yr:=.one Proofs.Tryz.func12 (by kernel_rfl) AYH (by kernel_rfl) (by kernel_rfl)
theorem ACF:BO 13 Yv:=.one Proofs.Tryz.func13 (by kernel_rfl) AUr (by kernel_rfl) (by kernel_rfl)
theorem zX:BO 14 aV:=.one Proofs.Tryz.func14 (by kernel_rfl) AVX (by kernel_rfl) (by kernel_rfl)
theorem ACf:BO 15 aN:=.one Proofs.Tryz.func15 (by kernel_rfl) AXU (by kernel_rfl) (by kernel_rfl)
theorem ABB:BO 16 bg:=.one Proofs.Tryz.func16 (by kernel_rfl) AZw (by kernel_rfl) (by kernel_rfl)
theorem ACy:BO 17 bM:=.one Proofs.Tryz.func17 (by kernel_rfl) AaF (by kernel_rfl) (by kernel_rfl)
theorem ACc:BO 18 YS:=.one Proofs.Tryz.func18 (by kernel_rfl) AUn (by kernel_rfl) (by kernel_rfl)
theorem AAm:BO 19 Zj:=.one Proofs.Tryz.func19 (by kernel_rfl) AZy (by kernel_rfl) (by kernel_rfl)
theorem AGO:BO 20 Y0:=.one Proofs.Tryz.func20 (by kernel_rfl) AT6 (by kernel_rfl) (by kernel_rfl)
theorem AEv:BO 21 Yn:=.one Proofs.Tryz.func21 (by kernel_rfl) AVG (by kernel_rfl) (by kernel_rfl)
theorem ADg:BO 22 Zz:=.one Proofs.Tryz.func22 (by kernel_rfl) AWM (by kernel_rfl) (by kernel_rfl)
theorem ADm:BO 23 Zm:=.one Proofs.Tryz.func23 (by kernel_rfl) AYl (by kernel_rfl) (by kernel_rfl)
theorem AAD:BO 24 bK:=.one Proofs.Tryz.func24 (by kernel_rfl) ATv (by kernel_rfl) (by kernel_rfl)
theorem AEd:BO 25 Yd:=.one Proofs.Tryz.func25 (by kernel_rfl) AZF (by kernel_rfl) (by kernel_rfl)
theorem AEj:BO 26 Zo:=.one Proofs.Tryz.func26 (by kernel_rfl) AVt (by kernel_rfl) (by kernel_rfl)
theorem AF9:BO 27 ZX:=.one Proofs.Tryz.func27 (by kernel_rfl) AV8 (by kernel_rfl) (by kernel_rfl)
theorem AFs:BO 28 Yx:=.one Proofs.Tryz.func28 (by kernel_rfl) AVP (by kernel_rfl) (by kernel_rfl)
theorem ACd:BO 29 YZ:=.one Proofs.Tryz.func29 (by kernel_rfl) AXs (by kernel_rfl) (by kernel_rfl)
theorem AGN:BO 30 Ym:=.one Proofs.Tryz.func30 (by kernel_rfl) ATM (by kernel_rfl) (by kernel_rfl)
theorem AFr:BO 31 bC:=.one Proofs.Tryz.func31 (by kernel_rfl) AUA (by kernel_rfl) (by kernel_rfl)
theorem AEu:BO 32 bW:=.one Proofs.Tryz.func32 (by kernel_rfl) AUq (by kernel_rfl) (by kernel_rfl)
theorem AFI:BO 33 ZR:=.one Proofs.Tryz.func33 (by kernel_rfl) AVY (by kernel_rfl) (by kernel_rfl)
theorem ABe:BO 34 YX:=.one Proofs.Tryz.func34 (by kernel_rfl) AUZ (by kernel_rfl) (by kernel_rfl)
theorem ACY:BO 35 Ye:=.one Proofs.Tryz.func35 (by kernel_rfl) ATF (by kernel_rfl) (by kernel_rfl)
theorem AAy:BO 36 aC:=.one Proofs.Tryz.func36 (by kernel_rfl) AWd (by kernel_rfl) (by kernel_rfl)
theorem ACU:BO 37 aF:=.one Proofs.Tryz.func37 (by kernel_rfl) AT8 (by kernel_rfl) (by kernel_rfl)
theorem AB8:BO 38 Yb:=.one Proofs.Tryz.func38 (by kernel_rfl) AXI (by kernel_rfl) (by kernel_rfl)
theorem zy:BO 39 aT:=.one Proofs.Tryz.func39 (by kernel_rfl) AYg (by kernel_rfl) (by kernel_rfl)
theorem AGV:BO 40 Ya:=.one Proofs.Tryz.func40 (by kernel_rfl) AYV (by kernel_rfl) (by kernel_rfl)
theorem AAi:BO 41 Y4:=.one Proofs.Tryz.func41 (by kernel_rfl) AXq (by kernel_rfl) (by kernel_rfl)
theorem AFj:BO 42 ZN:=.one Proofs.Tryz.func42 (by kernel_rfl) AXV (by kernel_rfl) (by kernel_rfl)
theorem ACm:BO 43 ZA:=.one Proofs.Tryz.func43 (by kernel_rfl) ATs (by kernel_rfl) (by kernel_rfl)
theorem AES:BO 44 Yt:=.one Proofs.Tryz.func44 (by kernel_rfl) AXf (by kernel_rfl) (by kernel_rfl)
theorem AFR:BO 45 Yi:=.one Proofs.Tryz.func45 (by kernel_rfl) AZd (by kernel_rfl) (by kernel_rfl)
theorem ACJ:BO 46 Zn:=.one Proofs.Tryz.func46 (by kernel_rfl) AYm (by kernel_rfl) (by kernel_rfl)
theorem AD7:BO 47 Yq:=.one Proofs.Tryz.func47 (by kernel_rfl) AUu (by kernel_rfl) (by kernel_rfl)
theorem ACl:BO 48 Z4:=.one Proofs.Tryz.func48 (by kernel_rfl) AZK (by kernel_rfl) (by kernel_rfl)
theorem ADS:BO 49 aX:=.one Proofs.Tryz.func49 (by kernel_rfl) AUl (by kernel_rfl) (by kernel_rfl)
theorem ADo:BO 50 Zf:=.one Proofs.Tryz.func50 (by kernel_rfl) AWa (by kernel_rfl) (by kernel_rfl)
theorem AFA:BO 51 ak:=.one Proofs.Tryz.func51 (by kernel_rfl) AS9 (by kernel_rfl) (by kernel_rfl)
theorem AAu:BO 52 ay:=.one Proofs.Tryz.func52 (by kernel_rfl) AXQ (by kernel_rfl) (by kernel_rfl)
theorem ADX:BO 53 Zk:=.one Proofs.Tryz.func53 (by kernel_rfl) AYM (by kernel_rfl) (by kernel_rfl)
theorem AGW:BO 54 aY:=.one Proofs.Tryz.func54 (by kernel_rfl) AWz (by kernel_rfl) (by kernel_rfl)
theorem AGc:BO 55 Y5:=.one Proofs.Tryz.func55 (by kernel_rfl) AYR (by kernel_rfl) (by kernel_rfl)
theorem zx:BO 56 aH:=.one Proofs.Tryz.func56 (by kernel_rfl) AXi (by kernel_rfl) (by kernel_rfl)
theorem ACr:BO 57 Yp:=.one Proofs.Tryz.func57 (by kernel_rfl) AVI (by kernel_rfl) (by kernel_rfl)
theorem AC0:BO 58 YT:=.one Proofs.Tryz.func58 (by kernel_rfl) AZa (by kernel_rfl) (by kernel_rfl)
theorem ACi:BO 59 ZE:=.one Proofs.Tryz.func59 (by kernel_rfl) AXh (by kernel_rfl) (by kernel_rfl)
theorem AE9:BO 60 aU:=.one Proofs.Tryz.func60 (by kernel_rfl) AYA (by kernel_rfl) (by kernel_rfl)
theorem ACN:BO 61 cZ:=.one Proofs.Tryz.func61 (by kernel_rfl) AVv (by kernel_rfl) (by kernel_rfl)
theorem zk:BO 62 aZ:=.one Proofs.Tryz.func62 (by kernel_rfl) AYJ (by kernel_rfl) (by kernel_rfl)
theorem zi:BO 63 Zg:=.one Proofs.Tryz.func63 (by kernel_rfl) AX8 (by kernel_rfl) (by kernel_rfl)
theorem AC6:BO 64 aO:=.one Proofs.Tryz.func64 (by kernel_rfl) ATD (by kernel_rfl) (by kernel_rfl)
theorem zC:BO 65 aS:=.one Proofs.Tryz.func65 (by kernel_rfl) AV7 (by kernel_rfl) (by kernel_rfl)
theorem AA9:BO 66 Zw:=.one Proofs.Tryz.func66 (by kernel_rfl) AVD (by kernel_rfl) (by kernel_rfl)
theorem AEg:BO 67 Yc:=.one Proofs.Tryz.func67 (by kernel_rfl) AWT (by kernel_rfl) (by kernel_rfl)
theorem AF6:BO 68 ZJ:=.one Proofs.Tryz.func68 (by kernel_rfl) AaC (by kernel_rfl) (by kernel_rfl)
theorem ABO:BO 69 Yj:=.one Proofs.Tryz.func69 (by kernel_rfl) AUm (by kernel_rfl) (by kernel_rfl)
theorem ABH:BO 70 ZW:=.one Proofs.Tryz.func70 (by kernel_rfl) ATe (by kernel_rfl) (by kernel_rfl)
theorem ACb:BO 71 aQ:=.one Proofs.Tryz.func71 (by kernel_rfl) AWB (by kernel_rfl) (by kernel_rfl)
theorem AD6:BO 72 dA:=.one Proofs.Tryz.func72 (by kernel_rfl) ATw (by kernel_rfl) (by kernel_rfl)
theorem AC7:BO 73 bH:=.one Proofs.Tryz.func73 (by kernel_rfl) AYO (by kernel_rfl) (by kernel_rfl)
theorem AEQ:BO 74 ZI:=.one Proofs.Tryz.func74 (by kernel_rfl) AaE (by kernel_rfl) (by kernel_rfl)
theorem AAG:BO 75 bV:=.one Proofs.Tryz.func75 (by kernel_rfl) AWI (by kernel_rfl) (by kernel_rfl)
theorem AA5:BO 76 aW:=.one Proofs.Tryz.func76 (by kernel_rfl) AVC (by kernel_rfl) (by kernel_rfl)
theorem AEL:BO 77 dB:=.one Proofs.Tryz.func77 (by kernel_rfl) AVs (by kernel_rfl) (by kernel_rfl)
theorem ABk:BO 78 bI:=.one Proofs.Tryz.func78 (by kernel_rfl) AWY (by kernel_rfl) (by kernel_rfl)
theorem ABy:BO 79 bD:=.one Proofs.Tryz.func79 (by kernel_rfl) AWG (by kernel_rfl) (by kernel_rfl)
theorem AAB:BO 80 Za:=.one Proofs.Tryz.func80 (by kernel_rfl) AWU (by kernel_rfl) (by kernel_rfl)
theorem AEV:BO 81 bG:=.one Proofs.Tryz.func81 (by kernel_rfl) AYG (by kernel_rfl) (by kernel_rfl)
theorem ADN:BO 82 Z8:=.one Proofs.Tryz.func82 (by kernel_rfl) AUJ (by kernel_rfl) (by kernel_rfl)
theorem AE2:BO 83 Y6:=.one Proofs.Tryz.func83 (by kernel_rfl) AXX (by kernel_rfl) (by kernel_rfl)
theorem AAz:BO 84 Y3:=.one Proofs.Tryz.func84 (by kernel_rfl) AZt (by kernel_rfl) (by kernel_rfl)
theorem AGI:BO 85 aj:=.one Proofs.Tryz.func85 (by kernel_rfl) AXC (by kernel_rfl) (by kernel_rfl)
theorem AAn:BO 86 YU:=.one Proofs.Tryz.func86 (by kernel_rfl) ATN (by kernel_rfl) (by kernel_rfl)
theorem ADt:BO 87 ZK:=.one Proofs.Tryz.func87 (by kernel_rfl) AVM (by kernel_rfl) (by kernel_rfl)
theorem AFc:BO 88 ZF:=.one Proofs.Tryz.func88 (by kernel_rfl) AS8 (by kernel_rfl) (by kernel_rfl)
theorem AF0:BO 89 Zx:=.one Proofs.Tryz.func89 (by kernel_rfl) AW4 (by kernel_rfl) (by kernel_rfl)
theorem ACB:BO 90 bQ:=.one Proofs.Tryz.func90 (by kernel_rfl) AZb (by kernel_rfl) (by kernel_rfl)
theorem AB0:BO 91 Yg:=.one Proofs.Tryz.func91 (by kernel_rfl) AT5 (by kernel_rfl) (by kernel_rfl)
theorem AA8:BO 92 Yl:=.one Proofs.Tryz.func92 (by kernel_rfl) AX1 (by kernel_rfl) (by kernel_rfl)
theorem AFF:BO 93 Yw:=.one Proofs.Tryz.func93 (by kernel_rfl) AUg (by kernel_rfl) (by kernel_rfl)
theorem ADi:BO 94 bn:=.one Proofs.Tryz.func94 (by kernel_rfl) AZH (by kernel_rfl) (by kernel_rfl)
theorem zq:BO 95 ZQ:=.one Proofs.Tryz.func95 (by kernel_rfl) AUW (by kernel_rfl) (by kernel_rfl)
theorem AD4:BO 96 bf:=.one Proofs.Tryz.func96 (by kernel_rfl) ATU (by kernel_rfl) (by kernel_rfl)
theorem ADe:BO 97 Zi:=.one Proofs.Tryz.func97 (by kernel_rfl) AYn (by kernel_rfl) (by kernel_rfl)
theorem AGX:BO 98 Zu:=.two Proofs.Tryz.func98 (by kernel_rfl) AT4 (by kernel_rfl) J3 (by kernel_rfl)
theorem zJ:BO 99 Yy:=.one Proofs.Tryz.func99 (by kernel_rfl) AXZ (by kernel_rfl) (by kernel_rfl)
theorem wI:BO 100 Po:=.one Proofs.Tryz.func100 (by kernel_rfl) AI4 (by kernel_rfl) (by kernel_rfl)
theorem qx:BO 101 Qr:=.one Proofs.Tryz.func101 (by kernel_rfl) AMU (by kernel_rfl) (by kernel_rfl)
theorem wR:BO 102 QI:=.one Proofs.Tryz.func102 (by kernel_rfl) AHG (by kernel_rfl) (by kernel_rfl)
theorem qW:BO 103 RG:=.one Proofs.Tryz.func103 (by kernel_rfl) ALI (by kernel_rfl) (by kernel_rfl)
theorem uM:BO 104 O1:=.one Proofs.Tryz.func104 (by kernel_rfl) AHn (by kernel_rfl) (by kernel_rfl)
theorem uV:BO 105 RD:=.one Proofs.Tryz.func105 (by kernel_rfl) AI7 (by kernel_rfl) (by kernel_rfl)
theorem sG:BO 106 PS:=.one Proofs.Tryz.func106 (by kernel_rfl) AOe (by kernel_rfl) (by kernel_rfl)
theorem sZ:BO 107 RY:=.one Proofs.Tryz.func107 (by kernel_rfl) AIV (by kernel_rfl) (by kernel_rfl)
theorem uG:BO 108 Rq:=.one Proofs.Tryz.func108 (by kernel_rfl) ANU (by kernel_rfl) (by kernel_rfl)
theorem vX:BO 109 Ou:=.one Proofs.Tryz.func109 (by kernel_rfl) AJ7 (by kernel_rfl) (by kernel_rfl)
theorem xI:BO 110 Rt:=.one Proofs.Tryz.func110 (by kernel_rfl) AJ4 (by kernel_rfl) (by kernel_rfl)
theorem vK:BO 111 P9:=.one Proofs.Tryz.func111 (by kernel_rfl) ALp (by kernel_rfl) (by kernel_rfl)
theorem tN:BO 112 Oy:=.one Proofs.Tryz.func112 (by kernel_rfl) AHX (by kernel_rfl) (by kernel_rfl)
theorem sV:BO 113 Ri:=.one Proofs.Tryz.func113 (by kernel_rfl) AIt (by kernel_rfl) (by kernel_rfl)
theorem sJ:BO 114 QC:=.one Proofs.Tryz.func114 (by kernel_rfl) AJT (by kernel_rfl) (by kernel_rfl)
theorem rV:BO 115 Rj:=.one Proofs.Tryz.func115 (by kernel_rfl) ANm (by kernel_rfl) (by kernel_rfl)
theorem uX:BO 116 Qv:=.one Proofs.Tryz.func116 (by kernel_rfl) AN8 (by kernel_rfl) (by kernel_rfl)
theorem pV:BO 117 Ro:=.one Proofs.Tryz.func117 (by kernel_rfl) AGv (by kernel_rfl) (by kernel_rfl)
theorem qP:BO 118 Oo:=.one Proofs.Tryz.func118 (by kernel_rfl) AHB (by kernel_rfl) (by kernel_rfl)
theorem wQ:BO 119 Qn:=.one Proofs.Tryz.func119 (by kernel_rfl) AKB (by kernel_rfl) (by kernel_rfl)
theorem sD:BO 120 Qh:=.one Proofs.Tryz.func120 (by kernel_rfl) ALU (by kernel_rfl) (by kernel_rfl)
theorem vg:BO 121 RQ:=.one Proofs.Tryz.func121 (by kernel_rfl) AN1 (by kernel_rfl) (by kernel_rfl)
theorem xR:BO 122 QH:=.one Proofs.Tryz.func122 (by kernel_rfl) AMi (by kernel_rfl) (by kernel_rfl)
theorem xP:BO 123 RN:=.one Proofs.Tryz.func123 (by kernel_rfl) AHt (by kernel_rfl) (by kernel_rfl)
theorem uf:BO 124 Qy:=.one Proofs.Tryz.func124 (by kernel_rfl) AJ1 (by kernel_rfl) (by kernel_rfl)
theorem pU:BO 125 Qj:=.one Proofs.Tryz.func125 (by kernel_rfl) AIM (by kernel_rfl) (by kernel_rfl)
theorem sN:BO 126 Rh:=.one Proofs.Tryz.func126 (by kernel_rfl) APA (by kernel_rfl) (by kernel_rfl)
theorem qE:BO 127 O4:=.one Proofs.Tryz.func127 (by kernel_rfl) AJt (by kernel_rfl) (by kernel_rfl)
theorem xK:BO 128 Qo:=.one Proofs.Tryz.func128 (by kernel_rfl) AHM (by kernel_rfl) (by kernel_rfl)
theorem vJ:BO 129 PY:=.one Proofs.Tryz.func129 (by kernel_rfl) AOI (by kernel_rfl) (by kernel_rfl)
theorem vO:BO 130 Rw:=.one Proofs.Tryz.func130 (by kernel_rfl) AIf (by kernel_rfl) (by kernel_rfl)
theorem o9:BO 131 QM:=.one Proofs.Tryz.func131 (by kernel_rfl) AKW (by kernel_rfl) (by kernel_rfl)
theorem yH:BO 132 P7:=.one Proofs.Tryz.func132 (by kernel_rfl) AL8 (by kernel_rfl) (by kernel_rfl)
theorem qR:BO 133 Rf:=.one Proofs.Tryz.func133 (by kernel_rfl) AH6 (by kernel_rfl) (by kernel_rfl)
theorem rY:BO 134 PL:=.one Proofs.Tryz.func134 (by kernel_rfl) AH4 (by kernel_rfl) (by kernel_rfl)
theorem yA:BO 135 QB:=.one Proofs.Tryz.func135 (by kernel_rfl) AGr (by kernel_rfl) (by kernel_rfl)
theorem yO:BO 136 Pq:=.one Proofs.Tryz.func136 (by kernel_rfl) AOs (by kernel_rfl) (by kernel_rfl)
theorem pF:BO 137 Py:=.one Proofs.Tryz.func137 (by kernel_rfl) AHl (by kernel_rfl) (by kernel_rfl)
theorem rW:BO 138 Ol:=.one Proofs.Tryz.func138 (by kernel_rfl) AIB (by kernel_rfl) (by kernel_rfl)
theorem vS:BO 139 Ov:=.one Proofs.Tryz.func139 (by kernel_rfl) AOO (by kernel_rfl) (by kernel_rfl)
theorem uY:BO 140 Oq:=.one Proofs.Tryz.func140 (by kernel_rfl) AJg (by kernel_rfl) (by kernel_rfl)
theorem uj:BO 141 PG:=.one Proofs.Tryz.func141 (by kernel_rfl) AOP (by kernel_rfl) (by kernel_rfl)
theorem wz:BO 142 Ox:=.one Proofs.Tryz.func142 (by kernel_rfl) AIw (by kernel_rfl) (by kernel_rfl)
theorem uI:BO 143 RP:=.one Proofs.Tryz.func143 (by kernel_rfl) AHa (by kernel_rfl) (by kernel_rfl)
theorem wF:BO 144 Pn:=.one Proofs.Tryz.func144 (by kernel_rfl) AIN (by kernel_rfl) (by kernel_rfl)
theorem xG:BO 145 P8:=.one Proofs.Tryz.func145 (by kernel_rfl) AMI (by kernel_rfl) (by kernel_rfl)
theorem tq:BO 146 RF:=.one Proofs.Tryz.func146 (by kernel_rfl) ANP (by kernel_rfl) (by kernel_rfl)
theorem xX:BO 147 Qs:=.one Proofs.Tryz.func147 (by kernel_rfl) ANc (by kernel_rfl) (by kernel_rfl)
theorem qY:BO 149 Om:=.one Proofs.Tryz.func149 (by kernel_rfl) AKg (by kernel_rfl) (by kernel_rfl)
theorem rU:BO 150 O9:=.one Proofs.Tryz.func150 (by kernel_rfl) AHN (by kernel_rfl) (by kernel_rfl)
theorem sH:BO 151 Pj:=.one Proofs.Tryz.func151 (by kernel_rfl) AOF (by kernel_rfl) (by kernel_rfl)
theorem yC:BO 152 QE:=.one Proofs.Tryz.func152 (by kernel_rfl) AJP (by kernel_rfl) (by kernel_rfl)
theorem uZ:BO 153 QG:=.one Proofs.Tryz.func153 (by kernel_rfl) ALz (by kernel_rfl) (by kernel_rfl)
theorem sO:BO 154 PI:=.one Proofs.Tryz.func154 (by kernel_rfl) AOk (by kernel_rfl) (by kernel_rfl)
theorem rH:BO 155 Px:=.one Proofs.Tryz.func155 (by kernel_rfl) AHk (by kernel_rfl) (by kernel_rfl)
theorem wX:BO 157 Qx:=.one Proofs.Tryz.func157 (by kernel_rfl) APE (by kernel_rfl) (by kernel_rfl)
theorem yI:BO 158 Qc:=.two Proofs.Tryz.func158 (by kernel_rfl) AOy (by kernel_rfl) J3 (by kernel_rfl)
theorem qU:BO 159 QT:=.two Proofs.Tryz.func159 (by kernel_rfl) AMf (by kernel_rfl) J3 (by kernel_rfl)
theorem uT:BO 160 QD:=.one Proofs.Tryz.func160 (by kernel_rfl) AJq (by kernel_rfl) (by kernel_rfl)
theorem uH:BO 161 PW:=.one Proofs.Tryz.func161 (by kernel_rfl) ALy (by kernel_rfl) (by kernel_rfl)
theorem tH:BO 162 Ql:=.one Proofs.Tryz.func162 (by kernel_rfl) AME (by kernel_rfl) (by kernel_rfl)
theorem oz:BO 163 QK:=.one Proofs.Tryz.func163 (by kernel_rfl) AMs (by kernel_rfl) (by kernel_rfl)
theorem qw:BO 164 Qi:=.one Proofs.Tryz.func164 (by kernel_rfl) ANu (by kernel_rfl) (by kernel_rfl)
theorem uz:BO 165 QX:=.one Proofs.Tryz.func165 (by kernel_rfl) AIE (by kernel_rfl) (by kernel_rfl)
theorem wZ:BO 166 Qz:=.one Proofs.Tryz.func166 (by kernel_rfl) AKY (by kernel_rfl) (by kernel_rfl)
theorem uh:BO 167 Qg:=.one Proofs.Tryz.func167 (by kernel_rfl) ALb (by kernel_rfl) (by kernel_rfl)
theorem qH:BO 168 Qw:=.one Proofs.Tryz.func168 (by kernel_rfl) AOr (by kernel_rfl) (by kernel_rfl)
theorem yP:BO 169 PO:=.one Proofs.Tryz.func169 (by kernel_rfl) ALM (by kernel_rfl) (by kernel_rfl)
theorem ug:BO 170 QV:=.one Proofs.Tryz.func170 (by kernel_rfl) AIF (by kernel_rfl) (by kernel_rfl)
theorem xJ:BO 171 Ph:=.one Proofs.Tryz.func171 (by kernel_rfl) AIS (by kernel_rfl) (by kernel_rfl)
theorem ql:BO 172 PN:=.one Proofs.Tryz.func172 (by kernel_rfl) AJd (by kernel_rfl) (by kernel_rfl)
theorem yQ:BO 173 QA:=.one Proofs.Tryz.func173 (by kernel_rfl) AIr (by kernel_rfl) (by kernel_rfl)
theorem qQ:BO 174 Qk:=.one Proofs.Tryz.func174 (by kernel_rfl) AI2 (by kernel_rfl) (by kernel_rfl)
theorem xW:BO 175 PZ:=.one Proofs.Tryz.func175 (by kernel_rfl) AL6 (by kernel_rfl) (by kernel_rfl)
theorem pW:BO 176 QZ:=.one Proofs.Tryz.func176 (by kernel_rfl) AMv (by kernel_rfl) (by kernel_rfl)
theorem uS:BO 177 Qu:=.one Proofs.Tryz.func177 (by kernel_rfl) AHR (by kernel_rfl) (by kernel_rfl)
theorem tY:BO 178 RX:=.one Proofs.Tryz.func178 (by kernel_rfl) AHh (by kernel_rfl) (by kernel_rfl)
theorem vU:BO 179 O0:=.one Proofs.Tryz.func179 (by kernel_rfl) ALk (by kernel_rfl) (by kernel_rfl)
theorem wY:BO 180 PK:=.one Proofs.Tryz.func180 (by kernel_rfl) AIa (by kernel_rfl) (by kernel_rfl)
theorem qj:BO 181 Qa:=.one Proofs.Tryz.func181 (by kernel_rfl) AH7 (by kernel_rfl) (by kernel_rfl)
theorem xq:BO 182 Rk:=.one Proofs.Tryz.func182 (by kernel_rfl) AHc (by kernel_rfl) (by kernel_rfl)
theorem yS:BO 183 PV:=.one Proofs.Tryz.func183 (by kernel_rfl) AOL (by kernel_rfl) (by kernel_rfl)
theorem qG:BO 184 QY:=.one Proofs.Tryz.func184 (by kernel_rfl) AIu (by kernel_rfl) (by kernel_rfl)
theorem xO:BO 185 RJ:=.one Proofs.Tryz.func185 (by kernel_rfl) ANz (by kernel_rfl) (by kernel_rfl)
theorem qN:BO 186 Rl:=.one Proofs.Tryz.func186 (by kernel_rfl) AHO (by kernel_rfl) (by kernel_rfl)
theorem qL:BO 187 Q7:=.one Proofs.Tryz.func187 (by kernel_rfl) AJA (by kernel_rfl) (by kernel_rfl)
theorem wo:BO 188 Q5:=.one Proofs.Tryz.func188 (by kernel_rfl) AMj (by kernel_rfl) (by kernel_rfl)
theorem xQ:BO 189 Rn:=.one Proofs.Tryz.func189 (by kernel_rfl) AJ9 (by kernel_rfl) (by kernel_rfl)
theorem tC:BO 190 QU:=.one Proofs.Tryz.func190 (by kernel_rfl) APa (by kernel_rfl) (by kernel_rfl)
theorem xU:BO 191 O7:=.one Proofs.Tryz.func191 (by kernel_rfl) AOV (by kernel_rfl) (by kernel_rfl)
theorem wJ:BO 192 RZ:=.one Proofs.Tryz.func192 (by kernel_rfl) AJG (by kernel_rfl) (by kernel_rfl)
theorem qc:BO 193 Qe:=.two Proofs.Tryz.func193 (by kernel_rfl) AL2 (by kernel_rfl) J3 (by kernel_rfl)
theorem ou:BO 194 RH:=.one Proofs.Tryz.func194 (by kernel_rfl) AKS (by kernel_rfl) (by kernel_rfl)
theorem xA:BO 195 Qb:=.one Proofs.Tryz.func195 (by kernel_rfl) AMA (by kernel_rfl) (by kernel_rfl)
theorem sF:BO 196 QN:=.one Proofs.Tryz.func196 (by kernel_rfl) ANb (by kernel_rfl) (by kernel_rfl)
theorem xk:BO 197 O8:=.one Proofs.Tryz.func197 (by kernel_rfl) AKM (by kernel_rfl) (by kernel_rfl)
theorem pJ:BO 198 QO:=.one Proofs.Tryz.func198 (by kernel_rfl) AJY (by kernel_rfl) (by kernel_rfl)
theorem yD:BO 199 Pm:=.one Proofs.Tryz.func199 (by kernel_rfl) AJh (by kernel_rfl) (by kernel_rfl)
theorem uP:BO 200 Ru:=.one Proofs.Tryz.func200 (by kernel_rfl) AH3 (by kernel_rfl) (by kernel_rfl)
theorem tu:BO 201 Pg:=.one Proofs.Tryz.func201 (by kernel_rfl) AO4 (by kernel_rfl) (by kernel_rfl)
theorem qh:BO 202 Qm:=.one Proofs.Tryz.func202 (by kernel_rfl) AKx (by kernel_rfl) (by kernel_rfl)
theorem uU:BO 203 Qd:=.one Proofs.Tryz.func203 (by kernel_rfl) AGw (by kernel_rfl) (by kernel_rfl)
theorem uD:BO 204 QL:=.one Proofs.Tryz.func204 (by kernel_rfl) AOg (by kernel_rfl) (by kernel_rfl)
theorem yZ:BO 205 O6:=.one Proofs.Tryz.func205 (by kernel_rfl) AJl (by kernel_rfl) (by kernel_rfl)
theorem yc:BO 206 Qq:=.one Proofs.Tryz.func206 (by kernel_rfl) AKh (by kernel_rfl) (by kernel_rfl)
theorem yG:BO 207 PE:=.one Proofs.Tryz.func207 (by kernel_rfl) AKN (by kernel_rfl) (by kernel_rfl)
theorem su:BO 208 PX:=.one Proofs.Tryz.func208 (by kernel_rfl) AOH (by kernel_rfl) (by kernel_rfl)
theorem yJ:BO 209 RI:=.one Proofs.Tryz.func209 (by kernel_rfl) AMO (by kernel_rfl) (by kernel_rfl)
theorem qm:BO 210 Pz:=.one Proofs.Tryz.func210 (by kernel_rfl) AJL (by kernel_rfl) (by kernel_rfl)
theorem yg:BO 211 Q8:=.one Proofs.Tryz.func211 (by kernel_rfl) AKw (by kernel_rfl) (by kernel_rfl)
theorem wO:BO 212 PU:=.one Proofs.Tryz.func212 (by kernel_rfl) ANL (by kernel_rfl) (by kernel_rfl)
theorem xH:BO 213 O5:=.one Proofs.Tryz.func213 (by kernel_rfl) AKi (by kernel_rfl) (by kernel_rfl)
theorem wB:BO 214 Ot:=.one Proofs.Tryz.func214 (by kernel_rfl) APH (by kernel_rfl) (by kernel_rfl)
theorem all_good:T.All (λp af=>JU Go.Proofs.Tryz.prog F p.key af) F:=(.n0 (.n0 (.n1 AH8 (.n1 AM3 (.n1 ACf (.n1 AFr (.n1 zi (.n1 qE .e .e) (.n1 xU .e .e)) (.n1 zq (.n1 qU .e .e) .e)) (.n1 AD7 (.n1 ABy (.n1 uI .e .e) (.n1 yG .e .e)) (.n1 vK (.n1 xW .e .e) .e))) (.n1 ADm (.n1 zy (.n1 ACb (.n1 yA .e .e) (.n1 yD .e .e)) (.n1 qW (.n1 uh .e .e) .e)) (.n1 AGc (.n1 ADt (.n1 sH .e .e) .e) (.n1 wQ (.n1 yS .e .e) .e)))) (.n1 AE7 (.n1 AAm (.n1 ACY (.n1 AEg (.n1 o9 .e .e) (.n1 xA .e .e)) (.n1 zJ (.n1 oz .e .e) .e)) (.n1 AFA (.n1 AE2 (.n1 xX .e .e) (.n1 yg .e .e)) (.n1 rV (.n1 vU .e .e) .e))) (.n1 AF9 (.n1 ACm (.n1 AAG (.n1 vS .e .e) (.n1 uU .e .e)) (.n1 sZ (.n1 xJ .e .e) .e)) (.n1 ACi (.n1 AB0 (.n1 rH .e .e) .e) (.n1 xP (.n1 qL .e .e) .e))))) (.n1 AKv (.n1 APU (.n1 ACy (.n1 AFI (.n1 zC (.n1 vJ .e .e) (.n1 qc .e .e)) (.n1 ADe (.n1 uH .e .e) .e)) (.n1 ADS (.n1 AEV (.n1 xG .e .e) (.n1 yJ .e .e)) (.n1 sV (.n1 uS .e .e) .e))) (.n1 AEd (.n1 AAi (.n1 AC7 (.n1 pF .e .e) (.n1 tu .e .e)) (.n1 uV (.n1 yP .e .e) .e)) (.n1 ACr (.n1 AF0 (.n1 uZ .e .e) .e) (.n1 vg (.n1 xO .e .e) .e)))) (.n1 ACF (.n1 AEv (.n1 ACU (.n1 ABO (.n1 qR .e .e) (.n1 xk .e .e)) (.n1 qx (.n1 uz .e .e) .e)) (.n1 ADX (.n1 AGI (.n1 qY .e .e) (.n1 xH .e .e)) (.n1 pV (.n1 qj .e .e) .e))) (.n1 ACd (.n1 AFR (.n1 AEL (.n1 uj .e .e) (.n1 yZ .e .e)) (.n1 vX (.n1 yQ .e .e) .e)) (.n1 ACN (.n1 AFF (.n1 wX .e .e) .e) (.n1 pU (.n1 xQ .e .e) .e)))))) (.n0 (.n1 AIP (.n1 AHj (.n1 ABB (.n1 AEu (.n1 AC6 (.n1 xK .e .e) (.n1 wJ .e .e)) (.n1 AD4 (.n1 uT .e .e) .e)) (.n1 ACl (.n1 AAB (.n1 wF .e .e) (.n1 su .e .e)) (.n1 tN (.n1 pW .e .e) .e))) (.n1 AAD (.n1 AGV (.n1 AD6 (.n1 yO .e .e) (.n1 uP .e .e)) (.n1 uM (.n1 qH .e .e) .e)) (.n1 zx (.n1 AFc (.n1 yC .e .e) .e) (.n1 sD (.n1 qG .e .e) .e)))) (.n1 ABA (.n1 AGO (.n1 AAy (.n1 AF6 (.n1 yH .e .e) (.n1 sF .e .e)) (.n1 wI (.n1 qw .e .e) .e)) (.n1 AAu (.n1 AAz .e (.n1 wO .e .e)) (.n1 uX (.n1 wY .e .e) .e))) (.n1 AFs (.n1 AES (.n1 AA5 (.n1 uY .e .e) (.n1 uD .e .e)) (.n1 uG (.n1 ql .e .e) .e)) (.n1 AE9 (.n1 AA8 .e .e) (.n1 uf (.n1 wo .e .e) .e))))) (.n1 ALg (.n1 ADP (.n1 ACc (.n1 ABe (.n1 AA9 (.n1 vO .e .e) (.n1 ou .e .e)) (.n1 AGX (.n1 tH .e .e) .e)) (.n1 ADo (.n1 ADN (.n1 tq .e .e) (.n1 qm .e .e)) (.n1 sJ (.n1 tY .e .e) .e))) (.n1 AEj (.n1 AFj (.n1 AEQ (.n1 rW .e .e) (.n1 qh .e .e)) (.n1 sG (.n1 ug .e .e) .e)) (.n1 AC0 (.n1 ACB (.n1 sO .e .e) .e) (.n1 xR (.n1 qN .e .e) .e)))) (.n1 zX (.n1 ADg (.n1 AB8 (.n1 ABH (.n1 rY .e .e) (.n1 pJ .e .e)) (.n1 wR (.n1 wZ .e .e) .e)) (.n1 AGW (.n1 AAn (.n1 rU .e .e) (.n1 wB .e .e)) (.n1 qP (.n1 xq .e .e) .e))) (.n1 AGN (.n1 ACJ (.n1 ABk (.n1 wz .e .e) (.n1 yc .e .e)) (.n1 xI (.n1 qQ .e .e) .e)) (.n1 zk (.n1 ADi (.n1 yI .e .e) .e) (.n1 sN (.n1 tC .e .e) .e)))))))
theorem AX0:Tc Go.Proofs.Tryz.prog F:=.AUx (by kernel_rfl) all_good
def AJJ:LV:=[.str 0 0,.int .i32 (.ofNat 0) 0,.str 3 7630441,.int .i32 (.ofNat 110) 0,.str 4 1819047278,.int .i32 (.ofNat 0) 0,.str 5 465490374508,.int .i32 (.ofNat 108) 0,.str 5 435711603827,.int .i32 (.ofNat 108) 0,.str 3 6579297,.int .i32 (.ofNat 0) 0,.str 3 6452595,.int .i32 (.ofNat 0) 0,.str 3 7107949,.int .i32 (.ofNat 0) 0,.str 3 7760228,.int .i32 (.ofNat 0) 0,.str 3 6582125,.int .i32 (.ofNat 0) 0,.str 4 1936942444,.int .i32 (.ofNat 0) 0,.str 4 1953722221,.int .i32 (.ofNat 0) 0,.str 4 1701667187,.int .i32 (.ofNat 0) 0,.str 5 491327616111,.int .i32 (.ofNat 0) 0,.str 3 6776174,.int .i32 (.ofNat 0) 0,.str 3 7630702,.int .i32 (.ofNat 0) 0,.str 3 7628135,.int .i32 (.ofNat 102) 0,.str 3 7632240,.int .i32 (.ofNat 102) 0,.str 3 7824750,.int .i32 (.ofNat 99) 0,.str 5 521325933153,.int .i32 (.ofNat 116) 0,.str 4 1684107116,.int .i32 (.ofNat 116) 0,.str 4 1702257011,.int .i32 (.ofNat 116) 0,.str 6 114849160783212,.int .i32 (.ofNat 0) 0,.str 4 1953718627,.int .i32 (.ofNat 99) 0,.str 2 29545,.int .i32 (.ofNat 99) 0,.str 4 1819042147,.int .i32 (.ofNat 109) 0,.str 6 109304575259763,.int .i32 (.ofNat 109) 0,.str 4 1886221674,.int .i32 (.ofNat 106) 0,.str 6 126939460038261,.int .i32 (.ofNat 106) 0,.str 6 121437875889522,.int .i32 (.ofNat 0) 0,.str 5 500068610672,.int .i32 (.ofNat 0) 0,.str 3 7368560,.int .i32 (.ofNat 0) 0,.str 4 1819242338,.int .i32 (.ofNat 98) 0]
def AHT:LV:=[.str 2 15677,.str 2 15649,.str 2 15676,.str 2 9766,.str 2 31868,.str 1 43,.str 1 45,.str 1 42,.str 1 47,.str 1 37,.str 1 60,.str 1 61,.str 1 33,.str 1 40,.str 1 41,.str 1 91,.str 1 93,.str 1 123,.str 1 125,.str 1 59,.str 1 44,.str 1 46]
def ACS(A B:AQ):AQ:=λb o n=>Option.rec (motive:=λ_=>Option LV) (B b o n) (λl=>some l) (A b o n)
theorem tZ{W:World}{A B:AQ}(hA:D7 W A)(hB:D7 W B):D7 W (ACS A B):=λb o n L h=>by
 unfold ACS at h
 cases ha:A b o n with
 |none=>rw[ha]at h;exact hB b o n L h
 |some l=>rw[ha]at h;cases h;exact hA b o n _ ha
def G0:AQ:=ACS (vC 0 22 AHT) (vC 2 66 AJJ)
end Go.R5
