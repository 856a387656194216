/- Part of a proof; nothing is assumed. -/
import Derived.Test.YtcjkfmaoahojeaaDoorEngA
import Derived.Test.YtcjkfmaoahojeaaDoorEngF
import Derived.Test.YtcjkfmaoahojeaaDoorProg
import Derived.Test.YtcjkfmaoahojeaaDoorEngG
set_option linter.unusedVariables false
set_option linter.unusedSimpArgs false
noncomputable section
namespace Go.PQ
open Go.Eng
set_option maxRecDepth 100000
abbrev tr(l:List (Nat×Nat))(d:Bool)(o:AFp)(g:Nat)(f:Func):Option AF:=trF Go.Proofs.Tryd.prog (inR l) d o g f
abbrev TY:=tr [(7,7),(9,10),(12,18),(20,90)] false [] 0 Proofs.Tryd.f8
def JQ:=CQ TY
theorem Z5:TY=some JQ:=Ag (by kernel_rfl)
abbrev aN:=tr [(3,41)] false [] 0 Proofs.Tryd.f9
def O4:=CQ aN
theorem sK:aN=some O4:=Ag (by kernel_rfl)
abbrev oP:=tr [(8,14),(18,24),(31,32)] false [(3,fU 4),(7,fU 7)] 0 Proofs.Tryd.f10
def TV:=CQ oP
theorem AAi:oP=some TV:=Ag (by kernel_rfl)
abbrev gI:=tr [(3,3),(5,9)] false [] 0 Proofs.Tryd.f15
def QI:=CQ gI
theorem xE:gI=some QI:=Ag (by kernel_rfl)
abbrev gY:=tr [(6,41)] false [(3,fU 4),(4,fU 13)] 0 Proofs.Tryd.f19
def P6:=CQ gY
theorem wH:gY=some P6:=Ag (by kernel_rfl)
abbrev XW:=tr [(5,7)] false [] 0 Proofs.Tryd.f20
def LP:=CQ XW
theorem jE:XW=some LP:=Ag (by kernel_rfl)
abbrev fV:=tr [(5,37)] false [] 0 Proofs.Tryd.f21
def QH:=CQ fV
theorem wS:fV=some QH:=Ag (by kernel_rfl)
abbrev Zu:=tr [(8,13),(15,20),(25,26),(37,38),(43,44),(53,55)] false [(9,opp [0,1,5,6,2,3,4,7,8,9]),(14,opp [0,2,3,1,4,5,6,7])] 0 Proofs.Tryd.f22
def Ol:=CQ Zu
theorem sW:Zu=some Ol:=Ag (by kernel_rfl)
abbrev Zh:=tr [(5,30)] false [] 0 Proofs.Tryd.f23
def O1:=CQ Zh
theorem rZ:Zh=some O1:=Ag (by kernel_rfl)
abbrev ACk:=tr [(8,13),(20,27),(35,40),(42,43)] false [(3,fU 7),(8,fU 8)] 0 Proofs.Tryd.f24
def bC:=CQ ACk
theorem AGw:ACk=some bC:=Ag (by kernel_rfl)
abbrev Vp:=tr [(5,19),(21,32),(34,35),(37,40),(50,57),(59,61),(69,84),(86,88)] false [(11,opp [0,1,2,4,3,5,6,7,8,9]),(15,fU 8)] 0 Proofs.Tryd.f25
def J8:=CQ Vp
theorem iG:Vp=some J8:=Ag (by kernel_rfl)
abbrev Y6:=tr [(3,8)] false [] 0 Proofs.Tryd.f26
def Nr:=CQ Y6
theorem qJ:Y6=some Nr:=Ag (by kernel_rfl)
abbrev OI:=tr [(8,8),(10,10),(12,16),(18,22),(24,33),(35,53)] false [] 0 Proofs.Tryd.f29
def FY:=CQ OI
theorem WM:OI=some FY:=Ag (by kernel_rfl)
abbrev Ef:=tr [(10,13),(19,29),(31,31)] false [] 0 Proofs.Tryd.f30
def Bz:=CQ Ef
theorem JK:Ef=some Bz:=Ag (by kernel_rfl)
def IW:AF:=.nat (.AJt 82 5)
abbrev Y0:=tr [(7,7),(9,9),(14,15),(26,26)] false [(8,[(0,.plain),(1,.plain),(2,.plain),(5,.plain),(6,.plain),(3,.plain),(4,.plain),(7,.plain),(8,.plain),(9,.plain),(10,.wr)]),(10,opp [0,1,2,6,7,10,3,4,5,8,9,11,12,13,14])] 0 Proofs.Tryd.f32
def Nz:=CQ Y0
theorem oW:Y0=some Nz:=Ag (by kernel_rfl)
abbrev yH:=tr [(8,8),(13,25)] false [] 0 Proofs.Tryd.f33
def Xo:=CQ yH
theorem AEa:yH=some Xo:=Ag (by kernel_rfl)
def KT:AF:=.nat (.AHC 82 5)
abbrev Na:=tr [(6,9),(11,11),(15,15),(25,25)] false [(6,fU 9)] 0 Proofs.Tryd.f35
def Ey:=CQ Na
theorem UY:Na=some Ey:=Ag (by kernel_rfl)
abbrev EF:=tr [(10,13),(19,29),(31,31)] false [] 0 Proofs.Tryd.f36
def BQ:=CQ EF
theorem Gv:EF=some BQ:=Ag (by kernel_rfl)
abbrev Y1:=tr [(5,37)] false [] 0 Proofs.Tryd.f37
def Nu:=CQ Y1
theorem pK:Y1=some Nu:=Ag (by kernel_rfl)
abbrev Zi:=tr [(24,39),(61,61),(73,75)] false [(0,fU 10),(1,fU 10),(4,fU 11),(5,fU 11),(7,fU 11)] 0 Proofs.Tryd.f38
def Oz:=CQ Zi
theorem rW:Zi=some Oz:=Ag (by kernel_rfl)
abbrev Zw:=tr [(9,13),(24,24),(37,37),(49,52),(54,59),(61,68),(70,70),(72,85),(87,87),(89,92),(94,109)] false [(2,fU 10),(4,fU 10),(8,fU 11)] 0 Proofs.Tryd.f39
def O0:=CQ Zw
theorem rO:Zw=some O0:=Ag (by kernel_rfl)
abbrev XJ:=tr [(10,14),(16,18)] false [] 0 Proofs.Tryd.f40
def Ld:=CQ XJ
theorem jB:XJ=some Ld:=Ag (by kernel_rfl)
abbrev XL:=tr [(5,17),(19,23)] false [] 0 Proofs.Tryd.f41
def LC:=CQ XL
theorem jq:XL=some LC:=Ag (by kernel_rfl)
abbrev XZ:=tr [(5,8),(10,11)] false [] 0 Proofs.Tryd.f42
def Ko:=CQ XZ
theorem jW:XZ=some Ko:=Ag (by kernel_rfl)
abbrev X4:=tr [(4,6),(8,12)] false [] 0 Proofs.Tryd.f43
def MP:=CQ X4
theorem ng:X4=some MP:=Ag (by kernel_rfl)
abbrev XQ:=tr [(4,4),(6,7)] false [] 0 Proofs.Tryd.f44
def LJ:=CQ XQ
theorem jI:XQ=some LJ:=Ag (by kernel_rfl)
abbrev Yo:=tr [(11,44),(46,46)] false [] 0 Proofs.Tryd.f45
def N8:=CQ Yo
theorem qy:Yo=some N8:=Ag (by kernel_rfl)
abbrev Uw:=tr [(6,12),(17,34),(36,38),(40,44),(54,62)] false [(2,opp [0,1,4,2,3,5]),(11,opp [0,1,2,4,3,5,6,7,8,9])] 0 Proofs.Tryd.f46
def Jl:=CQ Uw
theorem dK:Uw=some Jl:=Ag (by kernel_rfl)
abbrev XI:=tr [(4,8),(10,21)] false [] 0 Proofs.Tryd.f47
def KZ:=CQ XI
theorem kU:XI=some KZ:=Ag (by kernel_rfl)
abbrev RH:=tr [(3,3),(5,14)] false [] 0 Proofs.Tryd.f48
def IC:=CQ RH
theorem YU:RH=some IC:=Ag (by kernel_rfl)
abbrev OJ:=tr [(4,14)] false [] 0 Proofs.Tryd.f49
def FW:=CQ OJ
theorem WJ:OJ=some FW:=Ag (by kernel_rfl)
abbrev L8:=tr [(17,19),(21,41),(94,98),(100,109),(136,138),(140,144),(158,160),(162,166)] false [(7,fU 15),(8,fU 15),(9,fU 15),(10,fU 15),(17,fU 15),(18,fU 15),(23,fU 15)] 0 Proofs.Tryd.f50
def Es:=CQ L8
theorem UQ:L8=some Es:=Ag (by kernel_rfl)
abbrev Nj:=tr [(19,27),(29,29),(31,33),(35,45),(47,67),(69,88),(90,93),(95,101)] false [] 0 Proofs.Tryd.f51
def Ia:=CQ Nj
theorem VK:Nj=some Ia:=Ag (by kernel_rfl)
def WU:AF:=.nat .join
abbrev gW:=tr [(7,10),(13,13),(30,30),(41,41),(54,56),(58,67),(69,69),(84,90),(92,103)] false [(4,opp [0,1,2,3,7,8,11,4,5,6,9,10,12,13,14,15]),(6,opp [0,1,5,2,3,4,6,7,8,9]),(8,opp [0,1,2,6,7,8,9,3,4,5,10,11,12]),(13,opp [0,1,2,6,7,8,9,3,4,5,10,11,12,13])] 0 Proofs.Tryd.f54
def P8:=CQ gW
theorem vO:gW=some P8:=Ag (by kernel_rfl)
def UU:AF:=.nat .rep
abbrev Ei:=tr [(10,13),(19,29),(31,31)] false [] 0 Proofs.Tryd.f56
def CB:=CQ Ei
theorem JG:Ei=some CB:=Ag (by kernel_rfl)
abbrev fQ:=tr [(5,44)] false [] 0 Proofs.Tryd.f57
def QJ:=CQ fQ
theorem xk:fQ=some QJ:=Ag (by kernel_rfl)
abbrev aP:=tr [(7,15),(26,43)] false [(3,fU 10)] 0 Proofs.Tryd.f58
def Oo:=CQ aP
theorem uw:aP=some Oo:=Ag (by kernel_rfl)
abbrev XG:=tr [(5,7)] false [] 0 Proofs.Tryd.f59
def Le:=CQ XG
theorem kL:XG=some Le:=Ag (by kernel_rfl)
abbrev XD:=tr [(5,7)] false [] 0 Proofs.Tryd.f60
def Kr:=CQ XD
theorem jv:XD=some Kr:=Ag (by kernel_rfl)
abbrev yQ:=tr [(3,8)] false [] 0 Proofs.Tryd.f61
def Xm:=CQ yQ
theorem ADH:yQ=some Xm:=Ag (by kernel_rfl)
abbrev gG:=tr [(33,34)] false [(2,fU 27),(4,fU 16)] 0 Proofs.Tryd.f62
def QZ:=CQ gG
theorem xK:gG=some QZ:=Ag (by kernel_rfl)
abbrev yE:=tr [(3,16)] false [] 0 Proofs.Tryd.f63
def Xq:=CQ yE
theorem ADM:yE=some Xq:=Ag (by kernel_rfl)
abbrev yg:=tr [(3,8)] false [] 0 Proofs.Tryd.f64
def Xp:=CQ yg
theorem AEf:yg=some Xp:=Ag (by kernel_rfl)
abbrev yR:=tr [(5,25)] false [] 0 Proofs.Tryd.f65
def Xl:=CQ yR
theorem AEv:yR=some Xl:=Ag (by kernel_rfl)
abbrev yJ:=tr [(3,8)] false [] 0 Proofs.Tryd.f66
def Xt:=CQ yJ
theorem ADc:yJ=some Xt:=Ag (by kernel_rfl)
abbrev sD:=tr [(7,7),(12,20),(22,23)] false [] 0 Proofs.Tryd.f67
def Vj:=CQ sD
theorem AB2:sD=some Vj:=Ag (by kernel_rfl)
abbrev XO:=tr [(4,11),(13,21)] false [] 0 Proofs.Tryd.f68
def LX:=CQ XO
theorem jd:XO=some LX:=Ag (by kernel_rfl)
abbrev XT:=tr [(4,6),(8,13)] false [] 0 Proofs.Tryd.f69
def Kq:=CQ XT
theorem kZ:XT=some Kq:=Ag (by kernel_rfl)
abbrev Vr:=tr [(4,14),(16,21)] true [] 95 Proofs.Tryd.f70
def KC:=CQ Vr
theorem iI:Vr=some KC:=Ag (by kernel_rfl)
abbrev OQ:=tr [(3,5)] false [] 0 Proofs.Tryd.f71
def Fa:=CQ OQ
theorem Vt:OQ=some Fa:=Ag (by kernel_rfl)
abbrev Yg:=tr [(3,3),(5,7),(9,13),(15,24)] false [] 0 Proofs.Tryd.f72
def OB:=CQ Yg
theorem pI:Yg=some OB:=Ag (by kernel_rfl)
abbrev OV:=tr [] false [] 0 Proofs.Tryd.f73
def FZ:=CQ OV
theorem WE:OV=some FZ:=Ag (by kernel_rfl)
abbrev MF:=tr [(3,7)] false [] 0 Proofs.Tryd.f74
def HY:=CQ MF
theorem TS:MF=some HY:=Ag (by kernel_rfl)
abbrev Qa:=tr [(3,7)] false [] 0 Proofs.Tryd.f75
def Jz:=CQ Qa
theorem X3:Qa=some Jz:=Ag (by kernel_rfl)
abbrev gK:=tr [(5,8),(10,15)] false [] 0 Proofs.Tryd.f78
def P7:=CQ gK
theorem wI:gK=some P7:=Ag (by kernel_rfl)
abbrev LG:=tr [(5,17)] false [] 0 Proofs.Tryd.f81
def En:=CQ LG
theorem TK:LG=some En:=Ag (by kernel_rfl)
abbrev Lc:=tr [(5,7)] false [] 0 Proofs.Tryd.f82
def Em:=CQ Lc
theorem TJ:Lc=some Em:=Ag (by kernel_rfl)
abbrev ACu:=tr [(1,1)] false [] 0 Proofs.Tryd.f83
def bg:=CQ ACu
theorem AHO:ACu=some bg:=Ag (by kernel_rfl)
abbrev AAd:=tr [(1,1)] false [] 0 Proofs.Tryd.f84
def Y5:=CQ AAd
theorem AFr:AAd=some Y5:=Ag (by kernel_rfl)
abbrev AFm:=tr [(3,4)] false [] 0 Proofs.Tryd.f85
def nH:=CQ AFm
theorem AJx:AFm=some nH:=Ag (by kernel_rfl)
abbrev Xb:=tr [(3,13),(15,17)] false [] 0 Proofs.Tryd.f86
def LY:=CQ Xb
theorem jD:Xb=some LY:=Ag (by kernel_rfl)
abbrev Xa:=tr [(4,13),(15,30),(32,36),(38,48),(50,56),(58,68)] false [] 0 Proofs.Tryd.f87
def LU:=CQ Xa
theorem jh:Xa=some LU:=Ag (by kernel_rfl)
abbrev O5:=tr [(3,3),(5,13)] false [] 0 Proofs.Tryd.f88
def JW:=CQ O5
theorem Wi:O5=some JW:=Ag (by kernel_rfl)
abbrev Ot:=tr [(3,3),(5,13)] false [] 0 Proofs.Tryd.f89
def JV:=CQ Ot
theorem Ws:Ot=some JV:=Ag (by kernel_rfl)
abbrev gZ:=tr [(3,3),(6,9),(11,11),(13,13),(15,15),(17,19),(21,21),(29,29),(43,43),(58,63),(65,65),(76,76),(85,88),(90,94),(96,100),(102,102),(116,116),(126,126),(136,136),(147,147)] false [(13,opp [0,3,4,1,2,5,6]),(15,opp [0,3,4,7,1,2,5,6,8,9,10,11,12]),(17,fU 14),(21,fU 10),(23,opp [0,3,1,2,4,5,6,7]),(31,opp [0,4,5,8,1,2,3,6,7,9,10,11,12]),(33,opp [0,4,1,2,3,5,6,7,8]),(35,opp [0,4,1,2,3,5,6,7,8]),(37,opp [0,4,5,6,1,2,3,7,8,9]),(39,opp [0,4,5,6,1,2,3,7,8,9])] 0 Proofs.Tryd.f91
def QD:=CQ gZ
theorem wG:gZ=some QD:=Ag (by kernel_rfl)
abbrev Ut:=tr [(1,7)] false [] 0 Proofs.Tryd.f95
def Jr:=CQ Ut
theorem fG:Ut=some Jr:=Ag (by kernel_rfl)
abbrev XU:=tr [(3,7)] true [] 95 Proofs.Tryd.f96
def LK:=CQ XU
theorem iw:XU=some LK:=Ag (by kernel_rfl)
abbrev Un:=tr [(4,24),(26,27),(29,36)] true [] 95 Proofs.Tryd.f97
def Jh:=CQ Un
theorem dV:Un=some Jh:=Ag (by kernel_rfl)
abbrev Vw:=tr [(5,6),(15,17),(19,25),(27,40),(42,46)] false [(1,fU 10),(8,fU 16)] 0 Proofs.Tryd.f98
def KI:=CQ Vw
theorem ig:Vw=some KI:=Ag (by kernel_rfl)
abbrev kD:=tr [(5,8),(10,15)] false [] 0 Proofs.Tryd.f100
def Rl:=CQ kD
theorem zS:kD=some Rl:=Ag (by kernel_rfl)
abbrev ABu:=tr [(10,19)] false [] 0 Proofs.Tryd.f101
def Yi:=CQ ABu
theorem AGW:ABu=some Yi:=Ag (by kernel_rfl)
abbrev gJ:=tr [(3,9)] false [] 0 Proofs.Tryd.f102
def QX:=CQ gJ
theorem xQ:gJ=some QX:=Ag (by kernel_rfl)
abbrev U0:=tr [(11,15),(17,19),(27,27)] false [(4,fU 8)] 0 Proofs.Tryd.f103
def Jj:=CQ U0
theorem eX:U0=some Jj:=Ag (by kernel_rfl)
abbrev Uz:=tr [(2,5)] false [] 0 Proofs.Tryd.f104
def Jk:=CQ Uz
theorem bQ:Uz=some Jk:=Ag (by kernel_rfl)
abbrev Sr:=tr [(6,10),(12,13),(23,23)] false [(5,fU 10)] 0 Proofs.Tryd.f105
def Ih:=CQ Sr
theorem ZO:Sr=some Ih:=Ag (by kernel_rfl)
abbrev Qh:=tr [(2,5)] false [] 0 Proofs.Tryd.f106
def G6:=CQ Qh
theorem YN:Qh=some G6:=Ag (by kernel_rfl)
abbrev Vx:=tr [(9,12),(14,15),(25,25)] false [(4,fU 10)] 0 Proofs.Tryd.f107
def J7:=CQ Vx
theorem iU:Vx=some J7:=Ag (by kernel_rfl)
abbrev Oy:=tr [(2,6)] false [] 0 Proofs.Tryd.f108
def GI:=CQ Oy
theorem Wl:Oy=some GI:=Ag (by kernel_rfl)
abbrev V6:=tr [(9,15),(20,25),(27,30),(42,46),(48,51),(62,62)] true [(8,fU 15),(16,opp [0,1,2,3,6,7,4,5,8,9])] 95 Proofs.Tryd.f109
def KH:=CQ V6
theorem iL:V6=some KH:=Ag (by kernel_rfl)
abbrev WA:=tr [(5,14),(16,17),(24,26),(28,33)] false [(5,fU 7)] 0 Proofs.Tryd.f110
def J4:=CQ WA
theorem iK:WA=some J4:=Ag (by kernel_rfl)
abbrev XK:=tr [(5,15),(17,20),(22,26),(32,36),(42,59),(61,63),(65,67),(69,71),(73,75),(77,83),(85,95),(97,98),(100,107)] false [(8,fU 6),(11,fU 6)] 0 Proofs.Tryd.f111
def Kw:=CQ XK
theorem lH:XK=some Kw:=Ag (by kernel_rfl)
abbrev Uy:=tr [(8,8),(10,18),(20,24)] false [(6,fU 9)] 0 Proofs.Tryd.f112
def Jm:=CQ Uy
theorem ay:Uy=some Jm:=Ag (by kernel_rfl)
abbrev XR:=tr [(4,12),(14,15),(17,29)] false [] 0 Proofs.Tryd.f113
def Ky:=CQ XR
theorem iy:XR=some Ky:=Ag (by kernel_rfl)
abbrev aF:=tr [(3,22)] false [] 0 Proofs.Tryd.f114
def O6:=CQ aF
theorem rQ:aF=some O6:=Ag (by kernel_rfl)
def F:T AF:=(.n none (.n none (.n none (.n none (.n (some QI) (.n (some IW) (.n (some Xq) .e .e) (.n (some Jr) .e .e)) (.n (some KZ) .e (.n (some Kw) .e .e))) (.n (some O1) (.n (some O0) (.n (some Fa) .e .e) (.n (some Jj) .e .e)) (.n (some UU) (.n (some LU) .e .e) .e))) (.n none (.n (some P6) (.n (some Ey) (.n (some Vj) .e .e) .e) (.n (some Ia) (.n (some bg) .e .e) .e)) (.n none (.n (some MP) (.n (some Jz) .e .e) (.n (some J7) .e .e)) (.n (some Le) (.n (some QD) .e .e) .e)))) (.n none (.n (some O4) (.n none (.n (some Xo) (.n (some Xl) .e .e) (.n (some Jh) .e .e)) (.n (some FW) (.n (some En) .e .e) (.n (some Ky) .e .e))) (.n (some J8) (.n (some LC) (.n (some FZ) .e .e) (.n (some Ih) .e .e)) (.n (some QJ) (.n (some JV) .e .e) .e))) (.n none (.n (some QH) (.n (some Nu) (.n (some Kq) .e .e) (.n (some Yi) .e .e)) (.n (some WU) (.n (some nH) .e .e) .e)) (.n (some FY) (.n (some N8) .e (.n (some KH) .e .e)) (.n (some Xm) .e .e))))) (.n none (.n none (.n (some JQ) (.n none (.n (some Nz) (.n (some Xp) .e .e) (.n (some LK) .e .e)) (.n (some IC) .e (.n (some Jm) .e .e))) (.n (some bC) (.n (some Ld) (.n (some OB) .e .e) (.n (some Jk) .e .e)) (.n (some CB) (.n (some JW) .e .e) .e))) (.n none (.n (some LP) (.n (some BQ) (.n (some LX) .e .e) (.n (some Rl) .e .e)) (.n none (.n (some Y5) .e .e) .e)) (.n none (.n (some LJ) .e (.n (some GI) .e .e)) (.n (some Kr) .e .e)))) (.n none (.n (some TV) (.n none (.n (some KT) (.n (some Xt) .e .e) (.n (some KI) .e .e)) (.n (some Es) (.n (some Em) .e .e) (.n (some O6) .e .e))) (.n (some Nr) (.n (some Ko) (.n (some HY) .e .e) (.n (some G6) .e .e)) (.n (some Oo) .e .e))) (.n none (.n (some Ol) (.n (some Oz) (.n (some KC) .e .e) (.n (some QX) .e .e)) (.n (some P8) (.n (some LY) .e .e) .e)) (.n (some Bz) (.n (some Jl) (.n (some P7) .e .e) (.n (some J4) .e .e)) (.n (some QZ) .e .e))))))
theorem NU:T.get F 8=some JQ:=by kernel_rfl
theorem Tn:T.get F 9=some O4:=by kernel_rfl
theorem YC:T.get F 10=some TV:=by kernel_rfl
theorem U2:T.get F 15=some QI:=by kernel_rfl
theorem U6:T.get F 19=some P6:=by kernel_rfl
theorem Pm:T.get F 20=some LP:=by kernel_rfl
theorem VE:T.get F 21=some QH:=by kernel_rfl
theorem UJ:T.get F 22=some Ol:=by kernel_rfl
theorem UH:T.get F 23=some O1:=by kernel_rfl
theorem pU:T.get F 24=some bC:=by kernel_rfl
theorem Oc:T.get F 25=some J8:=by kernel_rfl
theorem SX:T.get F 26=some Nr:=by kernel_rfl
theorem I9:T.get F 29=some FY:=by kernel_rfl
theorem DY:T.get F 30=some Bz:=by kernel_rfl
theorem VR:T.get F 31=some IW:=by kernel_rfl
theorem SE:T.get F 32=some Nz:=by kernel_rfl
theorem au:T.get F 33=some Xo:=by kernel_rfl
theorem Ya:T.get F 34=some KT:=by kernel_rfl
theorem Hy:T.get F 35=some Ey:=by kernel_rfl
theorem CZ:T.get F 36=some BQ:=by kernel_rfl
theorem Si:T.get F 37=some Nu:=by kernel_rfl
theorem UN:T.get F 38=some Oz:=by kernel_rfl
theorem TR:T.get F 39=some O0:=by kernel_rfl
theorem PI:T.get F 40=some Ld:=by kernel_rfl
theorem Pj:T.get F 41=some LC:=by kernel_rfl
theorem Pv:T.get F 42=some Ko:=by kernel_rfl
theorem Qn:T.get F 43=some MP:=by kernel_rfl
theorem PU:T.get F 44=some LJ:=by kernel_rfl
theorem SQ:T.get F 45=some N8:=by kernel_rfl
theorem N7:T.get F 46=some Jl:=by kernel_rfl
theorem PV:T.get F 47=some KZ:=by kernel_rfl
theorem KR:T.get F 48=some IC:=by kernel_rfl
theorem JD:T.get F 49=some FW:=by kernel_rfl
theorem G5:T.get F 50=some Es:=by kernel_rfl
theorem zU:T.get F 53=some WU:=by kernel_rfl
theorem CW:T.get F 54=some P8:=by kernel_rfl
theorem sN:T.get F 55=some UU:=by kernel_rfl
theorem DW:T.get F 56=some CB:=by kernel_rfl
theorem VW:T.get F 57=some QJ:=by kernel_rfl
theorem TW:T.get F 58=some Oo:=by kernel_rfl
theorem Pg:T.get F 59=some Le:=by kernel_rfl
theorem PX:T.get F 60=some Kr:=by kernel_rfl
theorem eP:T.get F 61=some Xm:=by kernel_rfl
theorem U3:T.get F 62=some QZ:=by kernel_rfl
theorem ak:T.get F 63=some Xq:=by kernel_rfl
theorem bf:T.get F 64=some Xp:=by kernel_rfl
theorem bJ:T.get F 65=some Xl:=by kernel_rfl
theorem eF:T.get F 66=some Xt:=by kernel_rfl
theorem ZK:T.get F 67=some Vj:=by kernel_rfl
theorem Py:T.get F 68=some LX:=by kernel_rfl
theorem PD:T.get F 69=some Kq:=by kernel_rfl
theorem Oe:T.get F 70=some KC:=by kernel_rfl
theorem Iy:T.get F 71=some Fa:=by kernel_rfl
theorem SN:T.get F 72=some OB:=by kernel_rfl
theorem I8:T.get F 73=some FZ:=by kernel_rfl
theorem VD:T.get F 78=some P7:=by kernel_rfl
theorem Gm:T.get F 81=some En:=by kernel_rfl
theorem Gn:T.get F 82=some Em:=by kernel_rfl
theorem pV:T.get F 83=some bg:=by kernel_rfl
theorem jA:T.get F 84=some Y5:=by kernel_rfl
theorem vZ:T.get F 85=some nH:=by kernel_rfl
theorem Pz:T.get F 86=some LY:=by kernel_rfl
theorem Px:T.get F 87=some LU:=by kernel_rfl
theorem Ac:T.get F 91=some QD:=by kernel_rfl
theorem Ec:T.get F 95=some Jr:=by kernel_rfl
theorem PG:T.get F 96=some LK:=by kernel_rfl
theorem OA:T.get F 97=some Jh:=by kernel_rfl
theorem Ob:T.get F 98=some KI:=by kernel_rfl
theorem Wj:T.get F 100=some Rl:=by kernel_rfl
theorem jJ:T.get F 101=some Yi:=by kernel_rfl
theorem VH:T.get F 102=some QX:=by kernel_rfl
theorem OD:T.get F 103=some Jj:=by kernel_rfl
theorem Nw:T.get F 104=some Jk:=by kernel_rfl
theorem Ls:T.get F 105=some Ih:=by kernel_rfl
theorem Ju:T.get F 106=some G6:=by kernel_rfl
theorem OZ:T.get F 107=some J7:=by kernel_rfl
theorem JY:T.get F 108=some GI:=by kernel_rfl
theorem Oi:T.get F 109=some KH:=by kernel_rfl
theorem Oa:T.get F 110=some J4:=by kernel_rfl
theorem PK:T.get F 111=some Kw:=by kernel_rfl
theorem Ns:T.get F 112=some Jm:=by kernel_rfl
theorem Po:T.get F 113=some Ky:=by kernel_rfl
theorem Tc:T.get F 114=some O6:=by kernel_rfl
end Go.PQ
namespace Go.Proofs
open Go.Shelf
def Tryd.lays105_ren:Go.Shelf.Ren:=⟨λ|105=>55|212=>79|99=>59|165=>77|166=>31|170=>80|169=>34|263=>92|264=>93|206=>81|240=>52|241=>90|276=>76|277=>99|n=>n,λ|9=>9|3=>3|4=>4|20=>20|0=>0|46=>26|109=>136|5=>5|72=>82|76=>85|51=>130|146=>143|53=>107|148=>145|70=>79|37=>80|75=>84|127=>114|164=>134|80=>54|n=>n,λ|n=>n⟩
theorem Tryd.lays105:Go.Proofs.Lays.n105 Tryd.prog Tryd.lays105_ren:={
 mixed:=by kernel_rfl
 f99:=Tryd.func59.trans (congrArg some (by kernel_rfl))
 f105:=Tryd.func55.trans (congrArg some (by kernel_rfl))
 f165:=Tryd.func77.trans (congrArg some (by kernel_rfl))
 f166:=Tryd.func31.trans (congrArg some (by kernel_rfl))
 f169:=Tryd.func34.trans (congrArg some (by kernel_rfl))
 f170:=Tryd.func80.trans (congrArg some (by kernel_rfl))
 f206:=Tryd.func81.trans (congrArg some (by kernel_rfl))
 f212:=Tryd.func79.trans (congrArg some (by kernel_rfl))
 f240:=Tryd.func52.trans (congrArg some (by kernel_rfl))
 f241:=Tryd.func90.trans (congrArg some (by kernel_rfl))
 f263:=Tryd.func92.trans (congrArg some (by kernel_rfl))
 f264:=Tryd.func93.trans (congrArg some (by kernel_rfl))
 f276:=Tryd.func76.trans (congrArg some (by kernel_rfl))
 f277:=Tryd.func99.trans (congrArg some (by kernel_rfl))
 t0:=Tryd.underlying0
 a0:=Tryd.isAgg0
 z0:=Tryd.sizeOf0
 v0:=Tryd.zeroValue0
 t3:=Tryd.underlying3
 a3:=Tryd.isAgg3
 z3:=Tryd.sizeOf3
 v3:=Tryd.zeroValue3
 t4:=Tryd.underlying4
 a4:=Tryd.isAgg4
 z4:=Tryd.sizeOf4
 v4:=Tryd.zeroValue4
 t5:=Tryd.underlying5
 a5:=Tryd.isAgg5
 z5:=Tryd.sizeOf5
 v5:=Tryd.zeroValue5
 t9:=Tryd.underlying9
 a9:=Tryd.isAgg9
 z9:=Tryd.sizeOf9
 v9:=Tryd.zeroValue9
 t20:=Tryd.underlying20
 a20:=Tryd.isAgg20
 z20:=Tryd.sizeOf20
 v20:=Tryd.zeroValue20
 t37:=Tryd.underlying80
 a37:=Tryd.isAgg80
 z37:=Tryd.sizeOf80
 v37:=Tryd.zeroValue80
 t46:=Tryd.underlying26
 a46:=Tryd.isAgg26
 z46:=Tryd.sizeOf26
 v46:=Tryd.zeroValue26
 t51:=Tryd.underlying130
 a51:=Tryd.isAgg130
 z51:=Tryd.sizeOf130
 v51:=Tryd.zeroValue130
 t53:=Tryd.underlying107
 a53:=Tryd.isAgg107
 z53:=Tryd.sizeOf107
 v53:=Tryd.zeroValue107
 t70:=Tryd.underlying79
 a70:=Tryd.isAgg79
 z70:=Tryd.sizeOf79
 v70:=Tryd.zeroValue79
 t72:=Tryd.underlying82
 a72:=Tryd.isAgg82
 z72:=Tryd.sizeOf82
 v72:=Tryd.zeroValue82
 t75:=Tryd.underlying84
 a75:=Tryd.isAgg84
 z75:=Tryd.sizeOf84
 v75:=Tryd.zeroValue84
 t76:=Tryd.underlying85
 a76:=Tryd.isAgg85
 z76:=Tryd.sizeOf85
 v76:=Tryd.zeroValue85
 t109:=Tryd.underlying136
 a109:=Tryd.isAgg136
 z109:=Tryd.sizeOf136
 v109:=Tryd.zeroValue136
 t127:=Tryd.underlying114
 a127:=Tryd.isAgg114
 z127:=Tryd.sizeOf114
 v127:=Tryd.zeroValue114
 t146:=Tryd.underlying143
 a146:=Tryd.isAgg143
 z146:=Tryd.sizeOf143
 v146:=Tryd.zeroValue143
 t148:=Tryd.underlying145
 a148:=Tryd.isAgg145
 z148:=Tryd.sizeOf145
 v148:=Tryd.zeroValue145
 t164:=Tryd.underlying134
 a164:=Tryd.isAgg134
 z164:=Tryd.sizeOf134
 v164:=Tryd.zeroValue134}
theorem Tryd.Builder_Extra_105:Builder.Extra Tryd.prog Tryd.lays105_ren:={
 sizeBuilder:=by kernel_rfl
 liesBuilder:=by kernel_rfl
 t5:=Tryd.underlying5
 a5:=Tryd.isAgg5
 z5:=Tryd.sizeOf5
 v5:=Tryd.zeroValue5
 infoByte:=by kernel_rfl
 cellsByte:=by kernel_rfl
 sizeByte:=by kernel_rfl
 neB5:=by decide}
def Tryd.lays156_ren:Go.Shelf.Ren:=⟨λ|156=>53|165=>77|166=>31|169=>34|240=>52|241=>90|276=>76|277=>99|n=>n,λ|31=>59|9=>9|3=>3|4=>4|0=>0|20=>20|72=>82|76=>85|70=>79|37=>80|75=>84|127=>114|164=>134|5=>5|80=>54|n=>n,λ|n=>n⟩
theorem Tryd.lays156:Go.Proofs.Lays.n156 Tryd.prog Tryd.lays156_ren:={
 mixed:=by kernel_rfl
 f156:=Tryd.func53.trans (congrArg some (by kernel_rfl))
 f165:=Tryd.func77.trans (congrArg some (by kernel_rfl))
 f166:=Tryd.func31.trans (congrArg some (by kernel_rfl))
 f169:=Tryd.func34.trans (congrArg some (by kernel_rfl))
 f240:=Tryd.func52.trans (congrArg some (by kernel_rfl))
 f241:=Tryd.func90.trans (congrArg some (by kernel_rfl))
 f276:=Tryd.func76.trans (congrArg some (by kernel_rfl))
 f277:=Tryd.func99.trans (congrArg some (by kernel_rfl))
 t0:=Tryd.underlying0
 a0:=Tryd.isAgg0
 z0:=Tryd.sizeOf0
 v0:=Tryd.zeroValue0
 t3:=Tryd.underlying3
 a3:=Tryd.isAgg3
 z3:=Tryd.sizeOf3
 v3:=Tryd.zeroValue3
 t4:=Tryd.underlying4
 a4:=Tryd.isAgg4
 z4:=Tryd.sizeOf4
 v4:=Tryd.zeroValue4
 t9:=Tryd.underlying9
 a9:=Tryd.isAgg9
 z9:=Tryd.sizeOf9
 v9:=Tryd.zeroValue9
 t20:=Tryd.underlying20
 a20:=Tryd.isAgg20
 z20:=Tryd.sizeOf20
 v20:=Tryd.zeroValue20
 t31:=Tryd.underlying59
 a31:=Tryd.isAgg59
 z31:=Tryd.sizeOf59
 v31:=Tryd.zeroValue59
 t37:=Tryd.underlying80
 a37:=Tryd.isAgg80
 z37:=Tryd.sizeOf80
 v37:=Tryd.zeroValue80
 t70:=Tryd.underlying79
 a70:=Tryd.isAgg79
 z70:=Tryd.sizeOf79
 v70:=Tryd.zeroValue79
 t72:=Tryd.underlying82
 a72:=Tryd.isAgg82
 z72:=Tryd.sizeOf82
 v72:=Tryd.zeroValue82
 t75:=Tryd.underlying84
 a75:=Tryd.isAgg84
 z75:=Tryd.sizeOf84
 v75:=Tryd.zeroValue84
 t76:=Tryd.underlying85
 a76:=Tryd.isAgg85
 z76:=Tryd.sizeOf85
 v76:=Tryd.zeroValue85
 t127:=Tryd.underlying114
 a127:=Tryd.isAgg114
 z127:=Tryd.sizeOf114
 v127:=Tryd.zeroValue114
 t164:=Tryd.underlying134
 a164:=Tryd.isAgg134
 z164:=Tryd.sizeOf134
 v164:=Tryd.zeroValue134}
theorem Tryd.Builder_Extra_156:Builder.Extra Tryd.prog Tryd.lays156_ren:={
 sizeBuilder:=by kernel_rfl
 liesBuilder:=by kernel_rfl
 t5:=Tryd.underlying5
 a5:=Tryd.isAgg5
 z5:=Tryd.sizeOf5
 v5:=Tryd.zeroValue5
 infoByte:=by kernel_rfl
 cellsByte:=by kernel_rfl
 sizeByte:=by kernel_rfl
 neB5:=by decide}
end Go.Proofs
namespace Go.PQ
open Go.Eng Go.Proofs Go.Shelf
set_option maxRecDepth 100000
theorem Uf:oM Tryd.prog 31 (.AJt 82 5):=Go.Eng.ANu (P:=Tryd.prog) (r:=Tryd.lays156_ren) ⟨Tryd.f31,Tryd.func31,by kernel_rfl,by kernel_rfl⟩ {Tryd.lays156 with} Tryd.Builder_Extra_156
theorem YT:oM Tryd.prog 34 (.AHC 82 5):=Go.Eng.ALA (P:=Tryd.prog) (r:=Tryd.lays156_ren) ⟨Tryd.f34,Tryd.func34,by kernel_rfl,by kernel_rfl⟩ {Tryd.lays156 with} Tryd.Builder_Extra_156
theorem vX:oM Tryd.prog 53 .join:=Go.Eng.nat_join (P:=Tryd.prog) (r:=Tryd.lays156_ren) ⟨Tryd.f53,Tryd.func53,by kernel_rfl,by kernel_rfl⟩ Tryd.lays156 Tryd.Builder_Extra_156
theorem qg:oM Tryd.prog 55 .rep:=Go.Eng.AO8 (P:=Tryd.prog) (r:=Tryd.lays105_ren) ⟨Tryd.f55,Tryd.func55,by kernel_rfl,by kernel_rfl⟩ Tryd.lays105 Tryd.Builder_Extra_105
end Go.PQ
namespace Go.PQ
open Go.Eng
set_option maxRecDepth 100000
abbrev Fg(n:Nat)(a:AF):Prop:=o9 Go.Proofs.Tryd.prog F n a
theorem ok1{n:Nat}{a:AF}{fn:Func}{loc:Nat->Bool}{df:Bool}{ords:AFp}{dg:Nat}(hf:Go.Proofs.Tryd.prog.funcs[n]? =some fn)(ht:trF Go.Proofs.Tryd.prog loc df ords dg fn=some a)(hn:(fn.name== "runtime.NumGoroutine")=false:=by kernel_rfl)(hd:a.dg=dg:=by kernel_rfl)(hi:AHW a.dp=true:=by kernel_rfl):Fg n a:=.one hf hn ht hd hi
theorem Ye:Fg 8 JQ:=ok1 Proofs.Tryd.func8 Z5
theorem oD:Fg 9 O4:=ok1 Proofs.Tryd.func9 sK
theorem xY:Fg 10 TV:=ok1 Proofs.Tryd.func10 AAi
theorem qU:Fg 15 QI:=ok1 Proofs.Tryd.func15 xE
theorem pY:Fg 19 P6:=ok1 Proofs.Tryd.func19 wH
theorem dO:Fg 20 LP:=ok1 Proofs.Tryd.func20 jE
theorem pF:Fg 21 QH:=ok1 Proofs.Tryd.func21 wS
theorem ni:Fg 22 Ol:=ok1 Proofs.Tryd.func22 sW
theorem nR:Fg 23 O1:=ok1 Proofs.Tryd.func23 rZ
theorem AES:Fg 24 bC:=ok1 Proofs.Tryd.func24 AGw
theorem Zr:Fg 25 J8:=ok1 Proofs.Tryd.func25 iG
theorem lK:Fg 26 Nr:=ok1 Proofs.Tryd.func26 qJ
theorem Ud:Fg 29 FY:=ok1 Proofs.Tryd.func29 WM
theorem Ij:Fg 30 Bz:=ok1 Proofs.Tryd.func30 JK
theorem Tv:Fg 31 IW:=.nat _ rfl Uf
theorem kP:Fg 32 Nz:=ok1 Proofs.Tryd.func32 oW
theorem AAq:Fg 33 Xo:=ok1 Proofs.Tryd.func33 AEa
theorem Xh:Fg 34 KT:=.nat _ rfl YT
theorem TL:Fg 35 Ey:=ok1 Proofs.Tryd.func35 UY
theorem GY:Fg 36 BQ:=ok1 Proofs.Tryd.func36 Gv
theorem lY:Fg 37 Nu:=ok1 Proofs.Tryd.func37 pK
theorem oG:Fg 38 Oz:=ok1 Proofs.Tryd.func38 rW
theorem nY:Fg 39 O0:=ok1 Proofs.Tryd.func39 rO
theorem bU:Fg 40 Ld:=ok1 Proofs.Tryd.func40 jB
theorem dn:Fg 41 LC:=ok1 Proofs.Tryd.func41 jq
theorem eU:Fg 42 Ko:=ok1 Proofs.Tryd.func42 jW
theorem iO:Fg 43 MP:=ok1 Proofs.Tryd.func43 ng
theorem dU:Fg 44 LJ:=ok1 Proofs.Tryd.func44 jI
theorem kE:Fg 45 N8:=ok1 Proofs.Tryd.func45 qy
theorem ZX:Fg 46 Jl:=ok1 Proofs.Tryd.func46 dK
theorem fB:Fg 47 KZ:=ok1 Proofs.Tryd.func47 kU
theorem Xf:Fg 48 IC:=ok1 Proofs.Tryd.func48 YU
theorem Ug:Fg 49 FW:=ok1 Proofs.Tryd.func49 WJ
theorem SI:Fg 50 Es:=ok1 Proofs.Tryd.func50 UQ
theorem UA:Fg 51 Ia:=ok1 Proofs.Tryd.func51 VK
theorem uF:Fg 53 WU:=.nat _ rfl vX
theorem qB:Fg 54 P8:=ok1 Proofs.Tryd.func54 vO
theorem nO:Fg 55 UU:=.nat _ rfl qg
theorem Ic:Fg 56 CB:=ok1 Proofs.Tryd.func56 JG
theorem qP:Fg 57 QJ:=ok1 Proofs.Tryd.func57 xk
theorem nP:Fg 58 Oo:=ok1 Proofs.Tryd.func58 uw
theorem bn:Fg 59 Le:=ok1 Proofs.Tryd.func59 kL
theorem aj:Fg 60 Kr:=ok1 Proofs.Tryd.func60 jv
theorem ABl:Fg 61 Xm:=ok1 Proofs.Tryd.func61 ADH
theorem o7:Fg 62 QZ:=ok1 Proofs.Tryd.func62 xK
theorem ABS:Fg 63 Xq:=ok1 Proofs.Tryd.func63 ADM
theorem ABq:Fg 64 Xp:=ok1 Proofs.Tryd.func64 AEf
theorem AAw:Fg 65 Xl:=ok1 Proofs.Tryd.func65 AEv
theorem AAZ:Fg 66 Xt:=ok1 Proofs.Tryd.func66 ADc
theorem zQ:Fg 67 Vj:=ok1 Proofs.Tryd.func67 AB2
theorem fF:Fg 68 LX:=ok1 Proofs.Tryd.func68 jd
theorem dG:Fg 69 Kq:=ok1 Proofs.Tryd.func69 kZ
theorem aB:Fg 70 KC:=.two Proofs.Tryd.func70 (by kernel_rfl) iI (by kernel_rfl) Ec (by kernel_rfl)
theorem Ui:Fg 71 Fa:=ok1 Proofs.Tryd.func71 Vt
theorem lW:Fg 72 OB:=ok1 Proofs.Tryd.func72 pI
theorem Ua:Fg 73 FZ:=ok1 Proofs.Tryd.func73 WE
theorem SH:Fg 74 HY:=ok1 Proofs.Tryd.func74 TS
theorem Wx:Fg 75 Jz:=ok1 Proofs.Tryd.func75 X3
theorem qI:Fg 78 P7:=ok1 Proofs.Tryd.func78 wI
theorem RY:Fg 81 En:=ok1 Proofs.Tryd.func81 TK
theorem Q9:Fg 82 Em:=ok1 Proofs.Tryd.func82 TJ
theorem ADg:Fg 83 bg:=ok1 Proofs.Tryd.func83 AHO
theorem AB9:Fg 84 Y5:=ok1 Proofs.Tryd.func84 AFr
theorem AFs:Fg 85 nH:=ok1 Proofs.Tryd.func85 AJx
theorem dJ:Fg 86 LY:=ok1 Proofs.Tryd.func86 jD
theorem bZ:Fg 87 LU:=ok1 Proofs.Tryd.func87 jh
theorem VO:Fg 88 JW:=ok1 Proofs.Tryd.func88 Wi
theorem VI:Fg 89 JV:=ok1 Proofs.Tryd.func89 Ws
theorem oz:Fg 91 QD:=ok1 Proofs.Tryd.func91 wG
theorem ZI:Fg 95 Jr:=ok1 Proofs.Tryd.func95 fG
theorem eG:Fg 96 LK:=.two Proofs.Tryd.func96 (by kernel_rfl) iw (by kernel_rfl) Ec (by kernel_rfl)
theorem ZF:Fg 97 Jh:=.two Proofs.Tryd.func97 (by kernel_rfl) dV (by kernel_rfl) Ec (by kernel_rfl)
theorem Zx:Fg 98 KI:=ok1 Proofs.Tryd.func98 ig
theorem uK:Fg 100 Rl:=ok1 Proofs.Tryd.func100 zS
theorem AB1:Fg 101 Yi:=ok1 Proofs.Tryd.func101 AGW
theorem og:Fg 102 QX:=ok1 Proofs.Tryd.func102 xQ
theorem ZQ:Fg 103 Jj:=ok1 Proofs.Tryd.func103 eX
theorem ZY:Fg 104 Jk:=ok1 Proofs.Tryd.func104 bQ
theorem YG:Fg 105 Ih:=ok1 Proofs.Tryd.func105 ZO
theorem WS:Fg 106 G6:=ok1 Proofs.Tryd.func106 YN
theorem Zm:Fg 107 J7:=ok1 Proofs.Tryd.func107 iU
theorem VJ:Fg 108 GI:=ok1 Proofs.Tryd.func108 Wl
theorem Zt:Fg 109 KH:=.two Proofs.Tryd.func109 (by kernel_rfl) iL (by kernel_rfl) Ec (by kernel_rfl)
theorem aO:Fg 110 J4:=ok1 Proofs.Tryd.func110 iK
theorem bP:Fg 111 Kw:=ok1 Proofs.Tryd.func111 lH
theorem Zb:Fg 112 Jm:=ok1 Proofs.Tryd.func112 ay
theorem bT:Fg 113 Ky:=ok1 Proofs.Tryd.func113 iy
theorem oH:Fg 114 O6:=ok1 Proofs.Tryd.func114 rQ
theorem all_good:T.All (λp af=>o9 Go.Proofs.Tryd.prog F p.key af) F:=(.n0 (.n0 (.n0 (.n0 (.n1 qU (.n1 Tv (.n1 ABS .e .e) (.n1 ZI .e .e)) (.n1 fB .e (.n1 bP .e .e))) (.n1 nR (.n1 nY (.n1 Ui .e .e) (.n1 ZQ .e .e)) (.n1 nO (.n1 bZ .e .e) .e))) (.n0 (.n1 pY (.n1 TL (.n1 zQ .e .e) .e) (.n1 UA (.n1 ADg .e .e) .e)) (.n0 (.n1 iO (.n1 Wx .e .e) (.n1 Zm .e .e)) (.n1 bn (.n1 oz .e .e) .e)))) (.n0 (.n1 oD (.n0 (.n1 AAq (.n1 AAw .e .e) (.n1 ZF .e .e)) (.n1 Ug (.n1 RY .e .e) (.n1 bT .e .e))) (.n1 Zr (.n1 dn (.n1 Ua .e .e) (.n1 YG .e .e)) (.n1 qP (.n1 VI .e .e) .e))) (.n0 (.n1 pF (.n1 lY (.n1 dG .e .e) (.n1 AB1 .e .e)) (.n1 uF (.n1 AFs .e .e) .e)) (.n1 Ud (.n1 kE .e (.n1 Zt .e .e)) (.n1 ABl .e .e))))) (.n0 (.n0 (.n1 Ye (.n0 (.n1 kP (.n1 ABq .e .e) (.n1 eG .e .e)) (.n1 Xf .e (.n1 Zb .e .e))) (.n1 AES (.n1 bU (.n1 lW .e .e) (.n1 ZY .e .e)) (.n1 Ic (.n1 VO .e .e) .e))) (.n0 (.n1 dO (.n1 GY (.n1 fF .e .e) (.n1 uK .e .e)) (.n0 (.n1 AB9 .e .e) .e)) (.n0 (.n1 dU .e (.n1 VJ .e .e)) (.n1 aj .e .e)))) (.n0 (.n1 xY (.n0 (.n1 Xh (.n1 AAZ .e .e) (.n1 Zx .e .e)) (.n1 SI (.n1 Q9 .e .e) (.n1 oH .e .e))) (.n1 lK (.n1 eU (.n1 SH .e .e) (.n1 WS .e .e)) (.n1 nP .e .e))) (.n0 (.n1 ni (.n1 oG (.n1 aB .e .e) (.n1 og .e .e)) (.n1 qB (.n1 dJ .e .e) .e)) (.n1 Ij (.n1 ZX (.n1 qI .e .e) (.n1 aO .e .e)) (.n1 o7 .e .e))))))
theorem ATw:ABP Go.Proofs.Tryd.prog F:=.AUA (by kernel_rfl) all_good
end Go.PQ
