/- Part of a proof: texts PQNm PQTr PQOk of the engine and what is proved with it; nothing is assumed. -/
import Derived.Test.YtcjkfmaoahojeaaDoorEngA
import Derived.Test.YtcjkfmaoahojeaaDoorEngF
import Derived.Test.YtcjkfmaoahojeaaDoorProg
set_option linter.unusedVariables false
set_option linter.unusedSimpArgs false
namespace Go.PQ
open Go.Eng
def q0 : P2 := .h
def q1 : P2 := .z q0
def q2 : P2 := .o q0
def q3 : P2 := .z q1
def q4 : P2 := .o q1
def q5 : P2 := .z q2
def q6 : P2 := .o q2
def q7 : P2 := .z q3
def q8 : P2 := .o q3
def q9 : P2 := .z q4
def q10 : P2 := .o q4
def q11 : P2 := .z q5
def q12 : P2 := .o q5
def q13 : P2 := .z q6
def q14 : P2 := .o q6
def q15 : P2 := .z q7
def q16 : P2 := .o q7
def q17 : P2 := .z q8
def q18 : P2 := .o q8
def q19 : P2 := .z q9
def q20 : P2 := .o q9
def q21 : P2 := .z q10
def q22 : P2 := .o q10
def q23 : P2 := .z q11
def q24 : P2 := .o q11
def q25 : P2 := .z q12
def q26 : P2 := .o q12
def q27 : P2 := .z q13
def q28 : P2 := .o q13
def q29 : P2 := .z q14
def q30 : P2 := .o q14
def q31 : P2 := .z q15
def q32 : P2 := .o q15
def q33 : P2 := .z q16
def q34 : P2 := .o q16
def q35 : P2 := .z q17
def q36 : P2 := .o q17
def q37 : P2 := .z q18
def q38 : P2 := .o q18
def q39 : P2 := .z q19
def q40 : P2 := .o q19
def q41 : P2 := .z q20
def q42 : P2 := .o q20
def q43 : P2 := .z q21
def q44 : P2 := .o q21
def q45 : P2 := .z q22
def q46 : P2 := .o q22
def q47 : P2 := .z q23
def q48 : P2 := .o q23
def q49 : P2 := .z q24
def q50 : P2 := .o q24
def q51 : P2 := .z q25
def q52 : P2 := .o q25
def q53 : P2 := .z q26
def q54 : P2 := .o q26
def q55 : P2 := .z q27
def q56 : P2 := .o q27
def q57 : P2 := .z q28
def q58 : P2 := .o q28
def q59 : P2 := .z q29
def q60 : P2 := .o q29
def q61 : P2 := .z q30
def q62 : P2 := .o q30
def q63 : P2 := .z q31
def q64 : P2 := .o q31
def q65 : P2 := .z q32
def q66 : P2 := .o q32
def q67 : P2 := .z q33
def q68 : P2 := .o q33
def q69 : P2 := .z q34
def q70 : P2 := .o q34
def q71 : P2 := .z q35
def q72 : P2 := .o q35
def q73 : P2 := .z q36
def q74 : P2 := .o q36
def q75 : P2 := .z q37
def q76 : P2 := .o q37
def q77 : P2 := .z q38
def q78 : P2 := .o q38
def q79 : P2 := .z q39
def q80 : P2 := .o q39
def q81 : P2 := .z q40
def q82 : P2 := .o q40
def q83 : P2 := .z q41
def q84 : P2 := .o q41
def q85 : P2 := .z q42
def q86 : P2 := .o q42
def q87 : P2 := .z q43
def q88 : P2 := .o q43
def q89 : P2 := .z q44
def q90 : P2 := .o q44
def q91 : P2 := .z q45
def q92 : P2 := .o q45
def q93 : P2 := .z q46
def q94 : P2 := .o q46
def q95 : P2 := .z q47
def q96 : P2 := .o q47
def q97 : P2 := .z q48
def q98 : P2 := .o q48
def q99 : P2 := .z q49
def AWC : P2 := .o q49
def AWv : P2 := .z q50
def AVz : P2 := .o q50
def AXt : P2 := .z q51
def AV4 : P2 := .o q51
def AV2 : P2 := .z q52
def AXE : P2 := .o q52
def AW4 : P2 := .z q53
def AWf : P2 := .o q53
def AWN : P2 := .z q54
def AXz : P2 := .o q54
def AX2 : P2 := .z q55
def AWP : P2 := .o q55
def AWA : P2 := .z q56
def AXX : P2 := .o q56
def AXH : P2 := .z q57
def AX9 : P2 := .o q57
def AX7 : P2 := .z q58
def AX0 : P2 := .o q58
def AWT : P2 := .z q59
def AXU : P2 := .o q59
def AXO : P2 := .z q60
def AXv : P2 := .o q60
def AWh : P2 := .z q61
def AWG : P2 := .o q61
def AWI : P2 := .z q62
def AXo : P2 := .o q62
def AXI : P2 := .z q63
def AV0 : P2 := .o q63
def AWk : P2 := .z q64
def AXA : P2 := .o q64
def AX5 : P2 := .z q65
def AXJ : P2 := .o q65
def AX8 : P2 := .z q66
def AXa : P2 := .o q66
def AV3 : P2 := .z q67
def AWi : P2 := .o q67
def AXP : P2 := .z q68
def AXV : P2 := .o q68
def AX4 : P2 := .z q69
def AWL : P2 := .o q69
def AWx : P2 := .z q70
def AXR : P2 := .o q70
def AWg : P2 := .z q71
def AW5 : P2 := .o q71
def AWS : P2 := .z q72
def AW7 : P2 := .o q72
def AWK : P2 := .z q73
def AXy : P2 := .o q73
def AWD : P2 := .z q74
def AXx : P2 := .o q74
def AWB : P2 := .z q75
def AXG : P2 := .o q75
def AW6 : P2 := .z q76
def AXp : P2 := .o q76
def AXf : P2 := .z q77
def AXh : P2 := .o q77
def AWY : P2 := .z q78
def AXk : P2 := .o q78
def AWb : P2 := .z q79
def AWR : P2 := .o q79
def AWu : P2 := .z q80
def AXQ : P2 := .o q80
def AX1 : P2 := .z q81
def AXY : P2 := .o q81
def AXq : P2 := .z q82
def AWm : P2 := .o q82
def AWp : P2 := .z q83
abbrev Yo : Nat := 7
abbrev Xw : Nat := 9
abbrev gB : Nat := 10
abbrev Xg : Nat := 17
abbrev XV : Nat := 18
abbrev Ja : Nat := 19
abbrev KZ : Nat := 20
abbrev Fv : Nat := 21
abbrev xB : Nat := 24
abbrev UM : Nat := 25
abbrev DR : Nat := 26
abbrev MQ : Nat := 29
abbrev Dw : Nat := 30
abbrev X6 : Nat := 38
abbrev YE : Nat := 39
abbrev Ar : Nat := 40
abbrev CX : Nat := 41
abbrev Aa : Nat := 42
abbrev I8 : Nat := 43
abbrev IC : Nat := 44
abbrev CU : Nat := 45
abbrev Ri : Nat := 46
abbrev Bh : Nat := 47
abbrev O8 : Nat := 48
abbrev MO : Nat := 49
abbrev KT : Nat := 50
abbrev UJ : Nat := 51
abbrev I5 : Nat := 58
abbrev KW : Nat := 59
abbrev Ox : Nat := 60
abbrev dI : Nat := 61
abbrev PX : Nat := 62
abbrev dB : Nat := 63
abbrev Zx : Nat := 64
abbrev qE : Nat := 65
abbrev Wy : Nat := 66
abbrev jd : Nat := 67
abbrev CB : Nat := 68
abbrev O0 : Nat := 69
abbrev G6 : Nat := 70
abbrev Mc : Nat := 71
abbrev WX : Nat := 72
abbrev MK : Nat := 73
abbrev RG : Nat := 74
abbrev WL : Nat := 75
abbrev QX : Nat := 81
abbrev Qx : Nat := 82
abbrev xM : Nat := 83
abbrev uh : Nat := 84
abbrev jm : Nat := 85
abbrev IV : Nat := 86
abbrev EW : Nat := 87
abbrev VX : Nat := 88
abbrev VR : Nat := 89
abbrev CV : Nat := 95
abbrev Bf : Nat := 96
abbrev Ec : Nat := 97
abbrev TQ : Nat := 98
abbrev NK : Nat := 103
abbrev ND : Nat := 104
abbrev Kt : Nat := 105
abbrev F8 : Nat := 106
abbrev OE : Nat := 107
abbrev Iz : Nat := 108
abbrev CP : Nat := 109
abbrev TP : Nat := 110
abbrev U0 : Nat := 111
abbrev Rj : Nat := 112
abbrev O4 : Nat := 113
abbrev X8 : Nat := 114
end Go.PQ
namespace Go.PQ
open Go.Eng
set_option maxRecDepth 100000
noncomputable abbrev tr (l : List (Nat × Nat)) (d : Bool) (o : ACy) (g : Nat) (f : Func) : Option AF := trF Go.Proofs.Tryd.prog (inR l) d o g f
noncomputable abbrev Qj := tr [(23,23),(25,43),(45,49),(79,93)] false [(17,opp [0,1,5,6,7,8,11,15,16,17,18,21,28,29,2,3,4,9,10,12,13,14,19,20,22,23,24,25,26,27,30,31]),(20,Zm 10),(21,opp [0,1,2,3,4,5,6,7,8,9,10,11,12,13,14,15,16,17,19,20,18,21,22,23,24,25,26]),(22,opp [0,1,2,3,4,5,6,7,8,9,10,11,12,13,14,15,16,17,20,21,18,19,22,23,24,25,26])] 0 Proofs.Tryd.f7
noncomputable def Hq := CO Qj
theorem YH : Qj = some Hq := Af (by kernel_rfl)
noncomputable abbrev YN := tr [(3,41)] false [] 0 Proofs.Tryd.f9
noncomputable def NW := CO YN
theorem lJ : YN = some NW := Af (by kernel_rfl)
noncomputable abbrev gG := tr [(8,14),(18,24),(31,32)] false [(3,Zm 4),(7,Zm 7)] 0 Proofs.Tryd.f10
noncomputable def Ql := CO gG
theorem uY : gG = some Ql := Af (by kernel_rfl)
noncomputable abbrev PL := tr [(3,4)] false [] 0 Proofs.Tryd.f17
noncomputable def GH := CO PL
theorem WT : PL = some GH := Af (by kernel_rfl)
noncomputable abbrev PD := tr [(8,12),(15,18),(20,24)] false [] 0 Proofs.Tryd.f18
noncomputable def F7 := CO PD
theorem WJ : PD = some F7 := Af (by kernel_rfl)
noncomputable abbrev ZQ := tr [(6,41)] false [(3,Zm 4),(4,Zm 13)] 0 Proofs.Tryd.f19
noncomputable def OW := CO ZQ
theorem nK : ZQ = some OW := Af (by kernel_rfl)
noncomputable abbrev VF := tr [(5,7)] false [] 0 Proofs.Tryd.f20
noncomputable def Jp := CO VF
theorem bF : VF = some Jp := Af (by kernel_rfl)
noncomputable abbrev ZV := tr [(5,37)] false [] 0 Proofs.Tryd.f21
noncomputable def Oa := CO ZV
theorem nX : ZV = some Oa := Af (by kernel_rfl)
noncomputable abbrev yJ := tr [(8,13),(20,27),(35,40),(42,43)] false [(3,Zm 7),(8,Zm 8)] 0 Proofs.Tryd.f24
noncomputable def ZG := CO yJ
theorem ADX : yJ = some ZG := Af (by kernel_rfl)
noncomputable abbrev TR := tr [(5,19),(21,32),(34,35),(37,40),(50,57),(59,61),(69,84),(86,88)] false [(11,opp [0,1,2,4,3,5,6,7,8,9]),(15,Zm 8)] 0 Proofs.Tryd.f25
noncomputable def JJ := CO TR
theorem Zh : TR = some JJ := Af (by kernel_rfl)
noncomputable abbrev XE := tr [(3,8)] false [] 0 Proofs.Tryd.f26
noncomputable def Lu := CO XE
theorem iC : XE = some Lu := Af (by kernel_rfl)
noncomputable abbrev MZ := tr [(8,8),(10,10),(12,16),(18,22),(24,33),(35,53)] false [] 0 Proofs.Tryd.f29
noncomputable def EY := CO MZ
theorem UG : MZ = some EY := Af (by kernel_rfl)
noncomputable abbrev Dp := tr [(10,13),(19,29),(31,31)] false [] 0 Proofs.Tryd.f30
noncomputable def Ba := CO Dp
theorem Hg : Dp = some Ba := Af (by kernel_rfl)
noncomputable abbrev Xy := tr [(24,39),(61,61),(73,75)] false [(0,Zm 10),(1,Zm 10),(4,Zm 11),(5,Zm 11),(7,Zm 11)] 0 Proofs.Tryd.f38
noncomputable def NV := CO Xy
theorem lT : Xy = some NV := Af (by kernel_rfl)
noncomputable abbrev YK := tr [(9,13),(24,24),(37,37),(49,52),(54,59),(61,68),(70,70),(72,85),(87,87),(89,92),(94,109)] false [(2,Zm 10),(4,Zm 10),(8,Zm 11)] 0 Proofs.Tryd.f39
noncomputable def NZ := CO YK
theorem kV : YK = some NZ := Af (by kernel_rfl)
noncomputable abbrev VE := tr [(10,14),(16,18)] false [] 0 Proofs.Tryd.f40
noncomputable def Jv := CO VE
theorem aW : VE = some Jv := Af (by kernel_rfl)
noncomputable abbrev U1 := tr [(5,17),(19,23)] false [] 0 Proofs.Tryd.f41
noncomputable def Jj := CO U1
theorem aS : U1 = some Jj := Af (by kernel_rfl)
noncomputable abbrev U8 := tr [(5,8),(10,11)] false [] 0 Proofs.Tryd.f42
noncomputable def Jq := CO U8
theorem aX : U8 = some Jq := Af (by kernel_rfl)
noncomputable abbrev Vr := tr [(4,6),(8,12)] false [] 0 Proofs.Tryd.f43
noncomputable def KU := CO Vr
theorem fD : Vr = some KU := Af (by kernel_rfl)
noncomputable abbrev U9 := tr [(4,4),(6,7)] false [] 0 Proofs.Tryd.f44
noncomputable def Jd := CO U9
theorem bC : U9 = some Jd := Af (by kernel_rfl)
noncomputable abbrev Wu := tr [(11,44),(46,46)] false [] 0 Proofs.Tryd.f45
noncomputable def L9 := CO Wu
theorem iw : Wu = some L9 := Af (by kernel_rfl)
noncomputable abbrev RY := tr [(6,12),(17,34),(36,38),(40,44),(54,62)] false [(2,opp [0,1,4,2,3,5]),(11,opp [0,1,2,4,3,5,6,7,8,9])] 0 Proofs.Tryd.f46
noncomputable def Iw := CO RY
theorem Ym : RY = some Iw := Af (by kernel_rfl)
noncomputable abbrev U7 := tr [(4,8),(10,21)] false [] 0 Proofs.Tryd.f47
noncomputable def Jg := CO U7
theorem aj : U7 = some Jg := Af (by kernel_rfl)
noncomputable abbrev PG := tr [(3,3),(5,14)] false [] 0 Proofs.Tryd.f48
noncomputable def GI := CO PG
theorem WQ : PG = some GI := Af (by kernel_rfl)
noncomputable abbrev MV := tr [(4,14)] false [] 0 Proofs.Tryd.f49
noncomputable def EZ := CO MV
theorem UH : MV = some EZ := Af (by kernel_rfl)
noncomputable abbrev KP := tr [(17,19),(21,41),(94,98),(100,109),(136,138),(140,144),(158,160),(162,166)] false [(7,Zm 15),(8,Zm 15),(9,Zm 15),(10,Zm 15),(17,Zm 15),(18,Zm 15),(23,Zm 15)] 0 Proofs.Tryd.f50
noncomputable def D6 := CO KP
theorem Qu : KP = some D6 := Af (by kernel_rfl)
noncomputable abbrev Lj := tr [(19,27),(29,29),(31,33),(35,45),(47,67),(69,88),(90,93),(95,101)] false [] 0 Proofs.Tryd.f51
noncomputable def EO := CO Lj
theorem SH : Lj = some EO := Af (by kernel_rfl)
noncomputable abbrev YD := tr [(7,15),(26,43)] false [(3,Zm 10)] 0 Proofs.Tryd.f58
noncomputable def Nc := CO YD
theorem jv : YD = some Nc := Af (by kernel_rfl)
noncomputable abbrev Uy := tr [(5,7)] false [] 0 Proofs.Tryd.f59
noncomputable def Ju := CO Uy
theorem ay : Uy = some Ju := Af (by kernel_rfl)
noncomputable abbrev Uz := tr [(5,7)] false [] 0 Proofs.Tryd.f60
noncomputable def Jl := CO Uz
theorem cO : Uz = some Jl := Af (by kernel_rfl)
noncomputable abbrev oq := tr [(3,8)] false [] 0 Proofs.Tryd.f61
noncomputable def VL := CO oq
theorem AAk : oq = some VL := Af (by kernel_rfl)
noncomputable abbrev ZP := tr [(33,34)] false [(2,Zm 27),(4,Zm 16)] 0 Proofs.Tryd.f62
noncomputable def OY := CO ZP
theorem mJ : ZP = some OY := Af (by kernel_rfl)
noncomputable abbrev oh := tr [(3,16)] false [] 0 Proofs.Tryd.f63
noncomputable def VT := CO oh
theorem AAe : oh = some VT := Af (by kernel_rfl)
noncomputable abbrev oz := tr [(3,8)] false [] 0 Proofs.Tryd.f64
noncomputable def VK := CO oz
theorem yP : oz = some VK := Af (by kernel_rfl)
noncomputable abbrev pJ := tr [(5,25)] false [] 0 Proofs.Tryd.f65
noncomputable def Vb := CO pJ
theorem AAE : pJ = some Vb := Af (by kernel_rfl)
noncomputable abbrev oM := tr [(3,8)] false [] 0 Proofs.Tryd.f66
noncomputable def VN := CO oM
theorem AAf : oM = some VN := Af (by kernel_rfl)
noncomputable abbrev kD := tr [(7,7),(12,20),(22,23)] false [] 0 Proofs.Tryd.f67
noncomputable def Sl := CO kD
theorem vk : kD = some Sl := Af (by kernel_rfl)
noncomputable abbrev VD := tr [(4,11),(13,21)] false [] 0 Proofs.Tryd.f68
noncomputable def Jc := CO VD
theorem Zy : VD = some Jc := Af (by kernel_rfl)
noncomputable abbrev VA := tr [(4,6),(8,13)] false [] 0 Proofs.Tryd.f69
noncomputable def Jh := CO VA
theorem aA : VA = some Jh := Af (by kernel_rfl)
noncomputable abbrev Tf := tr [(4,14),(16,21)] true [] 95 Proofs.Tryd.f70
noncomputable def JI := CO Tf
theorem Zl : Tf = some JI := Af (by kernel_rfl)
noncomputable abbrev MJ := tr [(3,5)] false [] 0 Proofs.Tryd.f71
noncomputable def EX := CO MJ
theorem UR : MJ = some EX := Af (by kernel_rfl)
noncomputable abbrev Wq := tr [(3,3),(5,7),(9,13),(15,24)] false [] 0 Proofs.Tryd.f72
noncomputable def MC := CO Wq
theorem iR : Wq = some MC := Af (by kernel_rfl)
noncomputable abbrev ML := tr [] false [] 0 Proofs.Tryd.f73
noncomputable def Ea := CO ML
theorem Tz : ML = some Ea := Af (by kernel_rfl)
noncomputable abbrev KR := tr [(3,7)] false [] 0 Proofs.Tryd.f74
noncomputable def D8 := CO KR
theorem QS : KR = some D8 := Af (by kernel_rfl)
noncomputable abbrev Om := tr [(3,7)] false [] 0 Proofs.Tryd.f75
noncomputable def Fp := CO Om
theorem Vk : Om = some Fp := Af (by kernel_rfl)
noncomputable abbrev Jr := tr [(5,17)] false [] 0 Proofs.Tryd.f81
noncomputable def Dy := CO Jr
theorem QF : Jr = some Dy := Af (by kernel_rfl)
noncomputable abbrev Jk := tr [(5,7)] false [] 0 Proofs.Tryd.f82
noncomputable def Dx := CO Jk
theorem QJ : Jk = some Dx := Af (by kernel_rfl)
noncomputable abbrev xX := tr [(1,1)] false [] 0 Proofs.Tryd.f83
noncomputable def YU := CO xX
theorem ADA : xX = some YU := Af (by kernel_rfl)
noncomputable abbrev sK := tr [(1,1)] false [] 0 Proofs.Tryd.f84
noncomputable def Wv := CO sK
theorem AAv : sK = some Wv := Af (by kernel_rfl)
noncomputable abbrev ABQ := tr [(3,4)] false [] 0 Proofs.Tryd.f85
noncomputable def eF := CO ABQ
theorem AEn : ABQ = some eF := Af (by kernel_rfl)
noncomputable abbrev U5 := tr [(3,13),(15,17)] false [] 0 Proofs.Tryd.f86
noncomputable def J7 := CO U5
theorem cZ : U5 = some J7 := Af (by kernel_rfl)
noncomputable abbrev U4 := tr [(4,13),(15,30),(32,36),(38,48),(50,56),(58,68)] false [] 0 Proofs.Tryd.f87
noncomputable def Js := CO U4
theorem aG : U4 = some Js := Af (by kernel_rfl)
noncomputable abbrev NT := tr [(3,3),(5,13)] false [] 0 Proofs.Tryd.f88
noncomputable def Ez := CO NT
theorem Ul : NT = some Ez := Af (by kernel_rfl)
noncomputable abbrev Nh := tr [(3,3),(5,13)] false [] 0 Proofs.Tryd.f89
noncomputable def Ey := CO Nh
theorem Uc : Nh = some Ey := Af (by kernel_rfl)
noncomputable abbrev RQ := tr [(1,7)] false [] 0 Proofs.Tryd.f95
noncomputable def Iq := CO RQ
theorem YW : RQ = some Iq := Af (by kernel_rfl)
noncomputable abbrev VB := tr [(3,7)] true [] 95 Proofs.Tryd.f96
noncomputable def J6 := CO VB
theorem Z4 : VB = some J6 := Af (by kernel_rfl)
noncomputable abbrev RZ := tr [(4,24),(26,27),(29,36)] true [] 95 Proofs.Tryd.f97
noncomputable def Il := CO RZ
theorem ZN : RZ = some Il := Af (by kernel_rfl)
noncomputable abbrev Tj := tr [(5,6),(15,17),(19,25),(27,40),(42,46)] false [(1,Zm 10),(8,Zm 16)] 0 Proofs.Tryd.f98
noncomputable def JH := CO Tj
theorem Zf : Tj = some JH := Af (by kernel_rfl)
noncomputable abbrev Rq := tr [(11,15),(17,19),(27,27)] false [(4,Zm 8)] 0 Proofs.Tryd.f103
noncomputable def Iy := CO Rq
theorem YV : Rq = some Iy := Af (by kernel_rfl)
noncomputable abbrev Rn := tr [(2,5)] false [] 0 Proofs.Tryd.f104
noncomputable def Ir := CO Rn
theorem ZF : Rn = some Ir := Af (by kernel_rfl)
noncomputable abbrev QB := tr [(6,10),(12,13),(23,23)] false [(5,Zm 10)] 0 Proofs.Tryd.f105
noncomputable def Gm := CO QB
theorem Xk : QB = some Gm := Af (by kernel_rfl)
noncomputable abbrev Oh := tr [(2,5)] false [] 0 Proofs.Tryd.f106
noncomputable def Fh := CO Oh
theorem WI : Oh = some Fh := Af (by kernel_rfl)
noncomputable abbrev Tv := tr [(9,12),(14,15),(25,25)] false [(4,Zm 10)] 0 Proofs.Tryd.f107
noncomputable def JG := CO Tv
theorem Zk : Tv = some JG := Af (by kernel_rfl)
noncomputable abbrev NU := tr [(2,6)] false [] 0 Proofs.Tryd.f108
noncomputable def Ew := CO NU
theorem Ui : NU = some Ew := Af (by kernel_rfl)
noncomputable abbrev TB := tr [(9,15),(20,25),(27,30),(42,46),(48,51),(62,62)] true [(8,Zm 15),(16,opp [0,1,2,3,6,7,4,5,8,9])] 95 Proofs.Tryd.f109
noncomputable def JD := CO TB
theorem ZY : TB = some JD := Af (by kernel_rfl)
noncomputable abbrev TU := tr [(5,14),(16,17),(24,26),(28,33)] false [(5,Zm 7)] 0 Proofs.Tryd.f110
noncomputable def JE := CO TU
theorem Ze : TU = some JE := Af (by kernel_rfl)
noncomputable abbrev U6 := tr [(5,15),(17,20),(22,26),(32,36),(42,59),(61,63),(65,67),(69,71),(73,75),(77,83),(85,95),(97,98),(100,107)] false [(8,Zm 6),(11,Zm 6)] 0 Proofs.Tryd.f111
noncomputable def J3 := CO U6
theorem dL : U6 = some J3 := Af (by kernel_rfl)
noncomputable abbrev Rw := tr [(8,8),(10,18),(20,24)] false [(6,Zm 9)] 0 Proofs.Tryd.f112
noncomputable def Ip := CO Rw
theorem Yt : Rw = some Ip := Af (by kernel_rfl)
noncomputable abbrev U2 := tr [(4,12),(14,15),(17,29)] false [] 0 Proofs.Tryd.f113
noncomputable def J5 := CO U2
theorem bG : U2 = some J5 := Af (by kernel_rfl)
noncomputable abbrev YR := tr [(3,22)] false [] 0 Proofs.Tryd.f114
noncomputable def Nl := CO YR
theorem jX : YR = some Nl := Af (by kernel_rfl)
noncomputable def F : T AF := (.n none (.n none (.n none (.n (some Hq) (.n none (.n none (.n (some VT) .e .e) (.n (some Iq) .e .e)) (.n (some Jg) .e (.n (some J3) .e .e))) (.n none (.n (some NZ) (.n (some EX) .e .e) (.n (some Iy) .e .e)) (.n none (.n (some Js) .e .e) .e))) (.n none (.n (some OW) (.n none (.n (some Sl) .e .e) .e) (.n (some EO) (.n (some YU) .e .e) .e)) (.n none (.n (some KU) (.n (some Fp) .e .e) (.n (some JG) .e .e)) (.n (some Ju) .e .e)))) (.n none (.n (some NW) (.n (some GH) (.n none (.n (some Vb) .e .e) (.n (some Il) .e .e)) (.n (some EZ) (.n (some Dy) .e .e) (.n (some J5) .e .e))) (.n (some JJ) (.n (some Jj) (.n (some Ea) .e .e) (.n (some Gm) .e .e)) (.n none (.n (some Ey) .e .e) .e))) (.n none (.n (some Oa) (.n none (.n (some Jh) .e .e) .e) (.n none (.n (some eF) .e .e) .e)) (.n (some EY) (.n (some L9) .e (.n (some JD) .e .e)) (.n (some VL) .e .e))))) (.n none (.n none (.n none (.n none (.n none (.n (some VK) .e .e) (.n (some J6) .e .e)) (.n (some GI) .e (.n (some Ip) .e .e))) (.n (some ZG) (.n (some Jv) (.n (some MC) .e .e) (.n (some Ir) .e .e)) (.n none (.n (some Ez) .e .e) .e))) (.n none (.n (some Jp) (.n none (.n (some Jc) .e .e) .e) (.n none (.n (some Wv) .e .e) .e)) (.n none (.n (some Jd) .e (.n (some Ew) .e .e)) (.n (some Jl) .e .e)))) (.n none (.n (some Ql) (.n (some F7) (.n none (.n (some VN) .e .e) (.n (some JH) .e .e)) (.n (some D6) (.n (some Dx) .e .e) (.n (some Nl) .e .e))) (.n (some Lu) (.n (some Jq) (.n (some D8) .e .e) (.n (some Fh) .e .e)) (.n (some Nc) .e .e))) (.n none (.n none (.n (some NV) (.n (some JI) .e .e) .e) (.n none (.n (some J7) .e .e) .e)) (.n (some Ba) (.n (some Iw) .e (.n (some JE) .e .e)) (.n (some OY) .e .e))))))
theorem Kq : T.get F 7 = some Hq := by kernel_rfl
theorem QV : T.get F 9 = some NW := by kernel_rfl
theorem Vw : T.get F 10 = some Ql := by kernel_rfl
theorem JY : T.get F 17 = some GH := by kernel_rfl
theorem JW : T.get F 18 = some F7 := by kernel_rfl
theorem LD : T.get F 19 = some OW := by kernel_rfl
theorem OH : T.get F 20 = some Jp := by kernel_rfl
theorem SX : T.get F 21 = some Oa := by kernel_rfl
theorem gX : T.get F 24 = some ZG := by kernel_rfl
theorem NH : T.get F 25 = some JJ := by kernel_rfl
theorem Pj : T.get F 26 = some Lu := by kernel_rfl
theorem Gw : T.get F 29 = some EY := by kernel_rfl
theorem CS : T.get F 30 = some Ba := by kernel_rfl
theorem QO : T.get F 38 = some NV := by kernel_rfl
theorem Qz : T.get F 39 = some NZ := by kernel_rfl
theorem OI : T.get F 40 = some Jv := by kernel_rfl
theorem OG : T.get F 41 = some Jj := by kernel_rfl
theorem OO : T.get F 42 = some Jq := by kernel_rfl
theorem Oz : T.get F 43 = some KU := by kernel_rfl
theorem OM : T.get F 44 = some Jd := by kernel_rfl
theorem Pq : T.get F 45 = some L9 := by kernel_rfl
theorem MG : T.get F 46 = some Iw := by kernel_rfl
theorem Nz : T.get F 47 = some Jg := by kernel_rfl
theorem JU : T.get F 48 = some GI := by kernel_rfl
theorem Gu : T.get F 49 = some EZ := by kernel_rfl
theorem Fb : T.get F 50 = some D6 := by kernel_rfl
theorem SC : T.get F 51 = some EO := by kernel_rfl
theorem Qy : T.get F 58 = some Nc := by kernel_rfl
theorem Nu : T.get F 59 = some Ju := by kernel_rfl
theorem N9 : T.get F 60 = some Jl := by kernel_rfl
theorem ZK : T.get F 61 = some VL := by kernel_rfl
theorem SN : T.get F 62 = some OY := by kernel_rfl
theorem ZH : T.get F 63 = some VT := by kernel_rfl
theorem Yj : T.get F 64 = some VK := by kernel_rfl
theorem ZC : T.get F 65 = some Vb := by kernel_rfl
theorem ZA : T.get F 66 = some VN := by kernel_rfl
theorem Xa : T.get F 67 = some Sl := by kernel_rfl
theorem Ns : T.get F 68 = some Jc := by kernel_rfl
theorem Nw : T.get F 69 = some Jh := by kernel_rfl
theorem NQ : T.get F 70 = some JI := by kernel_rfl
theorem Gt : T.get F 71 = some EX := by kernel_rfl
theorem Pg : T.get F 72 = some MC := by kernel_rfl
theorem He : T.get F 73 = some Ea := by kernel_rfl
theorem QW : T.get F 74 = some D8 := by kernel_rfl
theorem V5 : T.get F 75 = some Fp := by kernel_rfl
theorem FI : T.get F 81 = some Dy := by kernel_rfl
theorem FK : T.get F 82 = some Dx := by kernel_rfl
theorem gq : T.get F 83 = some YU := by kernel_rfl
theorem bU : T.get F 84 = some Wv := by kernel_rfl
theorem nH : T.get F 85 = some eF := by kernel_rfl
theorem OC : T.get F 86 = some J7 := by kernel_rfl
theorem Ny : T.get F 87 = some Js := by kernel_rfl
theorem Uk : T.get F 88 = some Ez := by kernel_rfl
theorem Ur : T.get F 89 = some Ey := by kernel_rfl
theorem Di : T.get F 95 = some Iq := by kernel_rfl
theorem OQ : T.get F 96 = some J6 := by kernel_rfl
theorem L8 : T.get F 97 = some Il := by kernel_rfl
theorem NP : T.get F 98 = some JH := by kernel_rfl
theorem Ls : T.get F 103 = some Iy := by kernel_rfl
theorem Lm : T.get F 104 = some Ir := by kernel_rfl
theorem J8 : T.get F 105 = some Gm := by kernel_rfl
theorem JA : T.get F 106 = some Fh := by kernel_rfl
theorem NC : T.get F 107 = some JG := by kernel_rfl
theorem Hw : T.get F 108 = some Ew := by kernel_rfl
theorem NM : T.get F 109 = some JD := by kernel_rfl
theorem Md : T.get F 110 = some JE := by kernel_rfl
theorem OT : T.get F 111 = some J3 := by kernel_rfl
theorem Lr : T.get F 112 = some Ip := by kernel_rfl
theorem Nv : T.get F 113 = some J5 := by kernel_rfl
theorem Qp : T.get F 114 = some Nl := by kernel_rfl
end Go.PQ
namespace Go.PQ
open Go.Eng
set_option maxRecDepth 100000
abbrev Fg (n : Nat) (a : AF) : Prop := iT Go.Proofs.Tryd.prog F n a
theorem WM : Fg 7 Hq := .one Proofs.Tryd.func7 (by kernel_rfl) YH (by kernel_rfl) (by kernel_rfl)
theorem fF : Fg 9 NW := .one Proofs.Tryd.func9 (by kernel_rfl) lJ (by kernel_rfl) (by kernel_rfl)
theorem mV : Fg 10 Ql := .one Proofs.Tryd.func10 (by kernel_rfl) uY (by kernel_rfl) (by kernel_rfl)
theorem VQ : Fg 17 GH := .one Proofs.Tryd.func17 (by kernel_rfl) WT (by kernel_rfl) (by kernel_rfl)
theorem VY : Fg 18 F7 := .one Proofs.Tryd.func18 (by kernel_rfl) WJ (by kernel_rfl) (by kernel_rfl)
theorem gZ : Fg 19 OW := .one Proofs.Tryd.func19 (by kernel_rfl) nK (by kernel_rfl) (by kernel_rfl)
theorem Yq : Fg 20 Jp := .one Proofs.Tryd.func20 (by kernel_rfl) bF (by kernel_rfl) (by kernel_rfl)
theorem iI : Fg 21 Oa := .one Proofs.Tryd.func21 (by kernel_rfl) nX (by kernel_rfl) (by kernel_rfl)
theorem AAB : Fg 24 ZG := .one Proofs.Tryd.func24 (by kernel_rfl) ADX (by kernel_rfl) (by kernel_rfl)
theorem Xx : Fg 25 JJ := .one Proofs.Tryd.func25 (by kernel_rfl) Zh (by kernel_rfl) (by kernel_rfl)
theorem bJ : Fg 26 Lu := .one Proofs.Tryd.func26 (by kernel_rfl) iC (by kernel_rfl) (by kernel_rfl)
theorem RF : Fg 29 EY := .one Proofs.Tryd.func29 (by kernel_rfl) UG (by kernel_rfl) (by kernel_rfl)
theorem Gj : Fg 30 Ba := .one Proofs.Tryd.func30 (by kernel_rfl) Hg (by kernel_rfl) (by kernel_rfl)
theorem fJ : Fg 38 NV := .one Proofs.Tryd.func38 (by kernel_rfl) lT (by kernel_rfl) (by kernel_rfl)
theorem fG : Fg 39 NZ := .one Proofs.Tryd.func39 (by kernel_rfl) kV (by kernel_rfl) (by kernel_rfl)
theorem Yu : Fg 40 Jv := .one Proofs.Tryd.func40 (by kernel_rfl) aW (by kernel_rfl) (by kernel_rfl)
theorem Y6 : Fg 41 Jj := .one Proofs.Tryd.func41 (by kernel_rfl) aS (by kernel_rfl) (by kernel_rfl)
theorem Yw : Fg 42 Jq := .one Proofs.Tryd.func42 (by kernel_rfl) aX (by kernel_rfl) (by kernel_rfl)
theorem Za : Fg 43 KU := .one Proofs.Tryd.func43 (by kernel_rfl) fD (by kernel_rfl) (by kernel_rfl)
theorem Yv : Fg 44 Jd := .one Proofs.Tryd.func44 (by kernel_rfl) bC (by kernel_rfl) (by kernel_rfl)
theorem bZ : Fg 45 L9 := .one Proofs.Tryd.func45 (by kernel_rfl) iw (by kernel_rfl) (by kernel_rfl)
theorem XK : Fg 46 Iw := .one Proofs.Tryd.func46 (by kernel_rfl) Ym (by kernel_rfl) (by kernel_rfl)
theorem Yl : Fg 47 Jg := .one Proofs.Tryd.func47 (by kernel_rfl) aj (by kernel_rfl) (by kernel_rfl)
theorem VJ : Fg 48 GI := .one Proofs.Tryd.func48 (by kernel_rfl) WQ (by kernel_rfl) (by kernel_rfl)
theorem Q9 : Fg 49 EZ := .one Proofs.Tryd.func49 (by kernel_rfl) UH (by kernel_rfl) (by kernel_rfl)
theorem Pn : Fg 50 D6 := .one Proofs.Tryd.func50 (by kernel_rfl) Qu (by kernel_rfl) (by kernel_rfl)
theorem Q5 : Fg 51 EO := .one Proofs.Tryd.func51 (by kernel_rfl) SH (by kernel_rfl) (by kernel_rfl)
theorem fH : Fg 58 Nc := .one Proofs.Tryd.func58 (by kernel_rfl) jv (by kernel_rfl) (by kernel_rfl)
theorem ZO : Fg 59 Ju := .one Proofs.Tryd.func59 (by kernel_rfl) ay (by kernel_rfl) (by kernel_rfl)
theorem ZM : Fg 60 Jl := .one Proofs.Tryd.func60 (by kernel_rfl) cO (by kernel_rfl) (by kernel_rfl)
theorem rM : Fg 61 VL := .one Proofs.Tryd.func61 (by kernel_rfl) AAk (by kernel_rfl) (by kernel_rfl)
theorem gU : Fg 62 OY := .one Proofs.Tryd.func62 (by kernel_rfl) mJ (by kernel_rfl) (by kernel_rfl)
theorem uf : Fg 63 VT := .one Proofs.Tryd.func63 (by kernel_rfl) AAe (by kernel_rfl) (by kernel_rfl)
theorem vJ : Fg 64 VK := .one Proofs.Tryd.func64 (by kernel_rfl) yP (by kernel_rfl) (by kernel_rfl)
theorem ru : Fg 65 Vb := .one Proofs.Tryd.func65 (by kernel_rfl) AAE (by kernel_rfl) (by kernel_rfl)
theorem rV : Fg 66 VN := .one Proofs.Tryd.func66 (by kernel_rfl) AAf (by kernel_rfl) (by kernel_rfl)
theorem qI : Fg 67 Sl := .one Proofs.Tryd.func67 (by kernel_rfl) vk (by kernel_rfl) (by kernel_rfl)
theorem Yg : Fg 68 Jc := .one Proofs.Tryd.func68 (by kernel_rfl) Zy (by kernel_rfl) (by kernel_rfl)
theorem Yn : Fg 69 Jh := .one Proofs.Tryd.func69 (by kernel_rfl) aA (by kernel_rfl) (by kernel_rfl)
theorem Xv : Fg 70 JI := .two Proofs.Tryd.func70 (by kernel_rfl) Zl (by kernel_rfl) Di (by kernel_rfl)
theorem RD : Fg 71 EX := .one Proofs.Tryd.func71 (by kernel_rfl) UR (by kernel_rfl) (by kernel_rfl)
theorem ak : Fg 72 MC := .one Proofs.Tryd.func72 (by kernel_rfl) iR (by kernel_rfl) (by kernel_rfl)
theorem RI : Fg 73 Ea := .one Proofs.Tryd.func73 (by kernel_rfl) Tz (by kernel_rfl) (by kernel_rfl)
theorem Py : Fg 74 D8 := .one Proofs.Tryd.func74 (by kernel_rfl) QS (by kernel_rfl) (by kernel_rfl)
theorem Un : Fg 75 Fp := .one Proofs.Tryd.func75 (by kernel_rfl) Vk (by kernel_rfl) (by kernel_rfl)
theorem O6 : Fg 81 Dy := .one Proofs.Tryd.func81 (by kernel_rfl) QF (by kernel_rfl) (by kernel_rfl)
theorem PU : Fg 82 Dx := .one Proofs.Tryd.func82 (by kernel_rfl) QJ (by kernel_rfl) (by kernel_rfl)
theorem AAO : Fg 83 YU := .one Proofs.Tryd.func83 (by kernel_rfl) ADA (by kernel_rfl) (by kernel_rfl)
theorem wG : Fg 84 Wv := .one Proofs.Tryd.func84 (by kernel_rfl) AAv (by kernel_rfl) (by kernel_rfl)
theorem AAt : Fg 85 eF := .one Proofs.Tryd.func85 (by kernel_rfl) AEn (by kernel_rfl) (by kernel_rfl)
theorem Yf : Fg 86 J7 := .one Proofs.Tryd.func86 (by kernel_rfl) cZ (by kernel_rfl) (by kernel_rfl)
theorem ZE : Fg 87 Js := .one Proofs.Tryd.func87 (by kernel_rfl) aG (by kernel_rfl) (by kernel_rfl)
theorem SB : Fg 88 Ez := .one Proofs.Tryd.func88 (by kernel_rfl) Ul (by kernel_rfl) (by kernel_rfl)
theorem SK : Fg 89 Ey := .one Proofs.Tryd.func89 (by kernel_rfl) Uc (by kernel_rfl) (by kernel_rfl)
theorem XP : Fg 95 Iq := .one Proofs.Tryd.func95 (by kernel_rfl) YW (by kernel_rfl) (by kernel_rfl)
theorem ZB : Fg 96 J6 := .two Proofs.Tryd.func96 (by kernel_rfl) Z4 (by kernel_rfl) Di (by kernel_rfl)
theorem XZ : Fg 97 Il := .two Proofs.Tryd.func97 (by kernel_rfl) ZN (by kernel_rfl) Di (by kernel_rfl)
theorem X0 : Fg 98 JH := .one Proofs.Tryd.func98 (by kernel_rfl) Zf (by kernel_rfl) (by kernel_rfl)
theorem Xh : Fg 103 Iy := .one Proofs.Tryd.func103 (by kernel_rfl) YV (by kernel_rfl) (by kernel_rfl)
theorem XM : Fg 104 Ir := .one Proofs.Tryd.func104 (by kernel_rfl) ZF (by kernel_rfl) (by kernel_rfl)
theorem Vo : Fg 105 Gm := .one Proofs.Tryd.func105 (by kernel_rfl) Xk (by kernel_rfl) (by kernel_rfl)
theorem Uu : Fg 106 Fh := .one Proofs.Tryd.func106 (by kernel_rfl) WI (by kernel_rfl) (by kernel_rfl)
theorem X4 : Fg 107 JG := .one Proofs.Tryd.func107 (by kernel_rfl) Zk (by kernel_rfl) (by kernel_rfl)
theorem SI : Fg 108 Ew := .one Proofs.Tryd.func108 (by kernel_rfl) Ui (by kernel_rfl) (by kernel_rfl)
theorem X3 : Fg 109 JD := .two Proofs.Tryd.func109 (by kernel_rfl) ZY (by kernel_rfl) Di (by kernel_rfl)
theorem YO : Fg 110 JE := .one Proofs.Tryd.func110 (by kernel_rfl) Ze (by kernel_rfl) (by kernel_rfl)
theorem Y8 : Fg 111 J3 := .one Proofs.Tryd.func111 (by kernel_rfl) dL (by kernel_rfl) (by kernel_rfl)
theorem XW : Fg 112 Ip := .one Proofs.Tryd.func112 (by kernel_rfl) Yt (by kernel_rfl) (by kernel_rfl)
theorem Ya : Fg 113 J5 := .one Proofs.Tryd.func113 (by kernel_rfl) bG (by kernel_rfl) (by kernel_rfl)
theorem fA : Fg 114 Nl := .one Proofs.Tryd.func114 (by kernel_rfl) jX (by kernel_rfl) (by kernel_rfl)
theorem all_good : T.All (fun p af => iT Go.Proofs.Tryd.prog F p.key af) F := (.n0 (.n0 (.n0 (.n1 WM (.n0 (.n0 (.n1 uf .e .e) (.n1 XP .e .e)) (.n1 Yl .e (.n1 Y8 .e .e))) (.n0 (.n1 fG (.n1 RD .e .e) (.n1 Xh .e .e)) (.n0 (.n1 ZE .e .e) .e))) (.n0 (.n1 gZ (.n0 (.n1 qI .e .e) .e) (.n1 Q5 (.n1 AAO .e .e) .e)) (.n0 (.n1 Za (.n1 Un .e .e) (.n1 X4 .e .e)) (.n1 ZO .e .e)))) (.n0 (.n1 fF (.n1 VQ (.n0 (.n1 ru .e .e) (.n1 XZ .e .e)) (.n1 Q9 (.n1 O6 .e .e) (.n1 Ya .e .e))) (.n1 Xx (.n1 Y6 (.n1 RI .e .e) (.n1 Vo .e .e)) (.n0 (.n1 SK .e .e) .e))) (.n0 (.n1 iI (.n0 (.n1 Yn .e .e) .e) (.n0 (.n1 AAt .e .e) .e)) (.n1 RF (.n1 bZ .e (.n1 X3 .e .e)) (.n1 rM .e .e))))) (.n0 (.n0 (.n0 (.n0 (.n0 (.n1 vJ .e .e) (.n1 ZB .e .e)) (.n1 VJ .e (.n1 XW .e .e))) (.n1 AAB (.n1 Yu (.n1 ak .e .e) (.n1 XM .e .e)) (.n0 (.n1 SB .e .e) .e))) (.n0 (.n1 Yq (.n0 (.n1 Yg .e .e) .e) (.n0 (.n1 wG .e .e) .e)) (.n0 (.n1 Yv .e (.n1 SI .e .e)) (.n1 ZM .e .e)))) (.n0 (.n1 mV (.n1 VY (.n0 (.n1 rV .e .e) (.n1 X0 .e .e)) (.n1 Pn (.n1 PU .e .e) (.n1 fA .e .e))) (.n1 bJ (.n1 Yw (.n1 Py .e .e) (.n1 Uu .e .e)) (.n1 fH .e .e))) (.n0 (.n0 (.n1 fJ (.n1 Xv .e .e) .e) (.n0 (.n1 Yf .e .e) .e)) (.n1 Gj (.n1 XK .e (.n1 YO .e .e)) (.n1 gU .e .e))))))
theorem ALZ : uM Go.Proofs.Tryd.prog F := .ANh (by kernel_rfl) all_good
end Go.PQ
