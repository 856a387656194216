/- Part of a proof: texts PQNm PQTr PQOk of the engine and what is proved with it; nothing is assumed. -/
import Derived.Test.YtcjkfmaoahojeaaDoorEngA
import Derived.Test.YtcjkfmaoahojeaaDoorEngF
import Derived.Test.YtcjkfmaoahojeaaDoorProg
set_option linter.unusedVariables false
set_option linter.unusedSimpArgs false
namespace Go.PQ
open Go.Eng
def q0 : P2 := .h
def q1 : P2 := .z q0
def q2 : P2 := .o q0
def q3 : P2 := .z q1
def q4 : P2 := .o q1
def q5 : P2 := .z q2
def q6 : P2 := .o q2
def q7 : P2 := .z q3
def q8 : P2 := .o q3
def q9 : P2 := .z q4
def q10 : P2 := .o q4
def q11 : P2 := .z q5
def q12 : P2 := .o q5
def q13 : P2 := .z q6
def q14 : P2 := .o q6
def q15 : P2 := .z q7
def q16 : P2 := .o q7
def q17 : P2 := .z q8
def q18 : P2 := .o q8
def q19 : P2 := .z q9
def q20 : P2 := .o q9
def q21 : P2 := .z q10
def q22 : P2 := .o q10
def q23 : P2 := .z q11
def q24 : P2 := .o q11
def q25 : P2 := .z q12
def q26 : P2 := .o q12
def q27 : P2 := .z q13
def q28 : P2 := .o q13
def q29 : P2 := .z q14
def q30 : P2 := .o q14
def q31 : P2 := .z q15
def q32 : P2 := .o q15
def q33 : P2 := .z q16
def q34 : P2 := .o q16
def q35 : P2 := .z q17
def q36 : P2 := .o q17
def q37 : P2 := .z q18
def q38 : P2 := .o q18
def q39 : P2 := .z q19
def q40 : P2 := .o q19
def q41 : P2 := .z q20
def q42 : P2 := .o q20
def q43 : P2 := .z q21
def q44 : P2 := .o q21
def q45 : P2 := .z q22
def q46 : P2 := .o q22
def q47 : P2 := .z q23
def q48 : P2 := .o q23
def q49 : P2 := .z q24
def q50 : P2 := .o q24
def q51 : P2 := .z q25
def q52 : P2 := .o q25
def q53 : P2 := .z q26
def q54 : P2 := .o q26
def q55 : P2 := .z q27
def q56 : P2 := .o q27
def q57 : P2 := .z q28
def q58 : P2 := .o q28
def q59 : P2 := .z q29
def q60 : P2 := .o q29
def q61 : P2 := .z q30
def q62 : P2 := .o q30
def q63 : P2 := .z q31
def q64 : P2 := .o q31
def q65 : P2 := .z q32
def q66 : P2 := .o q32
def q67 : P2 := .z q33
def q68 : P2 := .o q33
def q69 : P2 := .z q34
def q70 : P2 := .o q34
def q71 : P2 := .z q35
def q72 : P2 := .o q35
def q73 : P2 := .z q36
def q74 : P2 := .o q36
def q75 : P2 := .z q37
def q76 : P2 := .o q37
def q77 : P2 := .z q38
def q78 : P2 := .o q38
def q79 : P2 := .z q39
def q80 : P2 := .o q39
def q81 : P2 := .z q40
def q82 : P2 := .o q40
def q83 : P2 := .z q41
def q84 : P2 := .o q41
def q85 : P2 := .z q42
def q86 : P2 := .o q42
def q87 : P2 := .z q43
def q88 : P2 := .o q43
def q89 : P2 := .z q44
def q90 : P2 := .o q44
def q91 : P2 := .z q45
def q92 : P2 := .o q45
def q93 : P2 := .z q46
def q94 : P2 := .o q46
def q95 : P2 := .z q47
def q96 : P2 := .o q47
def q97 : P2 := .z q48
def q98 : P2 := .o q48
def q99 : P2 := .z q49
def AWT : P2 := .o q49
def AWy : P2 := .z q50
def AXp : P2 := .o q50
def AW8 : P2 := .z q51
def AWV : P2 := .o q51
def AXl : P2 := .z q52
def AWP : P2 := .o q52
def AWz : P2 := .z q53
def AWf : P2 := .o q53
def AWm : P2 := .z q54
def AWY : P2 := .o q54
def AXD : P2 := .z q55
def AXs : P2 := .o q55
def AXk : P2 := .z q56
def AW4 : P2 := .o q56
def AX7 : P2 := .z q57
def AXR : P2 := .o q57
def AV2 : P2 := .z q58
def AX5 : P2 := .o q58
def AWu : P2 := .z q59
def AWW : P2 := .o q59
def AV3 : P2 := .z q60
def AXo : P2 := .o q60
def AWR : P2 := .z q61
def AWa : P2 := .o q61
def AWo : P2 := .z q62
def AX3 : P2 := .o q62
def AW7 : P2 := .z q63
def AWe : P2 := .o q63
def AXa : P2 := .z q64
def AXN : P2 := .o q64
def AWO : P2 := .z q65
def AWg : P2 := .o q65
def AWZ : P2 := .z q66
def AXT : P2 := .o q66
def AWn : P2 := .z q67
def AWS : P2 := .o q67
def AW9 : P2 := .z q68
def AWc : P2 := .o q68
def AWj : P2 := .z q69
def AV8 : P2 := .o q69
def AWv : P2 := .z q70
def AWh : P2 := .o q70
def AXH : P2 := .z q71
def AXQ : P2 := .o q71
def AXn : P2 := .z q72
def AXZ : P2 := .o q72
def AWN : P2 := .z q73
def AV4 : P2 := .o q73
def AWq : P2 := .z q74
def AXj : P2 := .o q74
def AWr : P2 := .z q75
def AXU : P2 := .o q75
def AXV : P2 := .z q76
def AXY : P2 := .o q76
def AWU : P2 := .z q77
def AX4 : P2 := .o q77
def AXG : P2 := .z q78
def AWB : P2 := .o q78
def AX8 : P2 := .z q79
def AXW : P2 := .o q79
def AW6 : P2 := .z q80
def AWX : P2 := .o q80
def AWL : P2 := .z q81
def AXP : P2 := .o q81
def AV7 : P2 := .z q82
def AXq : P2 := .o q82
def AXz : P2 := .z q83
abbrev Ym : Nat := 7
abbrev YS : Nat := 9
abbrev gJ : Nat := 10
abbrev Xd : Nat := 17
abbrev XW : Nat := 18
abbrev Ja : Nat := 19
abbrev Ko : Nat := 20
abbrev Fv : Nat := 21
abbrev wU : Nat := 24
abbrev TR : Nat := 25
abbrev DK : Nat := 26
abbrev MR : Nat := 29
abbrev Dq : Nat := 30
abbrev Xy : Nat := 38
abbrev YG : Nat := 39
abbrev Ar : Nat := 40
abbrev CW : Nat := 41
abbrev Aa : Nat := 42
abbrev JB : Nat := 43
abbrev IC : Nat := 44
abbrev CU : Nat := 45
abbrev Rf : Nat := 46
abbrev Bh : Nat := 47
abbrev PD : Nat := 48
abbrev MK : Nat := 49
abbrev KQ : Nat := 50
abbrev Tv : Nat := 51
abbrev I5 : Nat := 58
abbrev KU : Nat := 59
abbrev O1 : Nat := 60
abbrev aU : Nat := 61
abbrev PY : Nat := 62
abbrev Zx : Nat := 63
abbrev dF : Nat := 64
abbrev oP : Nat := 65
abbrev Wl : Nat := 66
abbrev jq : Nat := 67
abbrev CB : Nat := 68
abbrev O3 : Nat := 69
abbrev G5 : Nat := 70
abbrev MZ : Nat := 71
abbrev WZ : Nat := 72
abbrev MN : Nat := 73
abbrev RG : Nat := 74
abbrev WO : Nat := 75
abbrev QN : Nat := 81
abbrev QZ : Nat := 82
abbrev xk : Nat := 83
abbrev tK : Nat := 84
abbrev jY : Nat := 85
abbrev IL : Nat := 86
abbrev ET : Nat := 87
abbrev VP : Nat := 88
abbrev VU : Nat := 89
abbrev CV : Nat := 95
abbrev Bf : Nat := 96
abbrev Ec : Nat := 97
abbrev TS : Nat := 98
abbrev NJ : Nat := 103
abbrev NM : Nat := 104
abbrev LP : Nat := 105
abbrev F9 : Nat := 106
abbrev OO : Nat := 107
abbrev Iy : Nat := 108
abbrev CP : Nat := 109
abbrev TK : Nat := 110
abbrev VD : Nat := 111
abbrev RU : Nat := 112
abbrev Oz : Nat := 113
abbrev X7 : Nat := 114
end Go.PQ
namespace Go.PQ
open Go.Eng
set_option maxRecDepth 100000
noncomputable abbrev tr (l : List (Nat × Nat)) (d : Bool) (o : ADQ) (g : Nat) (f : Func) : Option AF := trF Go.Proofs.Tryd.prog (inR l) d o g f
noncomputable abbrev Qp := tr [(23,23),(25,43),(45,49),(79,93)] false [(17,opp [0,1,5,6,7,8,11,15,16,17,18,21,28,29,2,3,4,9,10,12,13,14,19,20,22,23,24,25,26,27,30,31]),(20,Zm 10),(21,opp [0,1,2,3,4,5,6,7,8,9,10,11,12,13,14,15,16,17,19,20,18,21,22,23,24,25,26]),(22,opp [0,1,2,3,4,5,6,7,8,9,10,11,12,13,14,15,16,17,20,21,18,19,22,23,24,25,26])] 0 Proofs.Tryd.f7
noncomputable def Ht := CO Qp
theorem X9 : Qp = some Ht := Af (by kernel_rfl)
noncomputable abbrev Xv := tr [(3,41)] false [] 0 Proofs.Tryd.f9
noncomputable def NV := CO Xv
theorem jw : Xv = some NV := Af (by kernel_rfl)
noncomputable abbrev fM := tr [(8,14),(18,24),(31,32)] false [(3,Zm 4),(7,Zm 7)] 0 Proofs.Tryd.f10
noncomputable def Qo := CO fM
theorem uY : fM = some Qo := Af (by kernel_rfl)
noncomputable abbrev PK := tr [(3,4)] false [] 0 Proofs.Tryd.f17
noncomputable def GI := CO PK
theorem WQ : PK = some GI := Af (by kernel_rfl)
noncomputable abbrev O6 := tr [(8,12),(15,18),(20,24)] false [] 0 Proofs.Tryd.f18
noncomputable def GH := CO O6
theorem WT : O6 = some GH := Af (by kernel_rfl)
noncomputable abbrev ZR := tr [(6,41)] false [(3,Zm 4),(4,Zm 13)] 0 Proofs.Tryd.f19
noncomputable def Oa := CO ZR
theorem nZ : ZR = some Oa := Af (by kernel_rfl)
noncomputable abbrev VH := tr [(5,7)] false [] 0 Proofs.Tryd.f20
noncomputable def Jt := CO VH
theorem dM : VH = some Jt := Af (by kernel_rfl)
noncomputable abbrev ZP := tr [(5,37)] false [] 0 Proofs.Tryd.f21
noncomputable def OW := CO ZP
theorem oG : ZP = some OW := Af (by kernel_rfl)
noncomputable abbrev wV := tr [(8,13),(20,27),(35,40),(42,43)] false [(3,Zm 7),(8,Zm 8)] 0 Proofs.Tryd.f24
noncomputable def Yq := CO wV
theorem ADG : wV = some Yq := Af (by kernel_rfl)
noncomputable abbrev UG := tr [(5,19),(21,32),(34,35),(37,40),(50,57),(59,61),(69,84),(86,88)] false [(11,opp [0,1,2,4,3,5,6,7,8,9]),(15,Zm 8)] 0 Proofs.Tryd.f25
noncomputable def JF := CO UG
theorem ZX : UG = some JF := Af (by kernel_rfl)
noncomputable abbrev Ws := tr [(3,8)] false [] 0 Proofs.Tryd.f26
noncomputable def Lr := CO Ws
theorem iQ : Ws = some Lr := Af (by kernel_rfl)
noncomputable abbrev MP := tr [(8,8),(10,10),(12,16),(18,22),(24,33),(35,53)] false [] 0 Proofs.Tryd.f29
noncomputable def Ea := CO MP
theorem TJ : MP = some Ea := Af (by kernel_rfl)
noncomputable abbrev Du := tr [(10,13),(19,29),(31,31)] false [] 0 Proofs.Tryd.f30
noncomputable def Ba := CO Du
theorem Hl : Du = some Ba := Af (by kernel_rfl)
noncomputable abbrev YP := tr [(24,39),(61,61),(73,75)] false [(0,Zm 10),(1,Zm 10),(4,Zm 11),(5,Zm 11),(7,Zm 11)] 0 Proofs.Tryd.f38
noncomputable def Nl := CO YP
theorem lT : YP = some Nl := Af (by kernel_rfl)
noncomputable abbrev YH := tr [(9,13),(24,24),(37,37),(49,52),(54,59),(61,68),(70,70),(72,85),(87,87),(89,92),(94,109)] false [(2,Zm 10),(4,Zm 10),(8,Zm 11)] 0 Proofs.Tryd.f39
noncomputable def Nh := CO YH
theorem jl : YH = some Nh := Af (by kernel_rfl)
noncomputable abbrev VB := tr [(10,14),(16,18)] false [] 0 Proofs.Tryd.f40
noncomputable def Jb := CO VB
theorem bY : VB = some Jb := Af (by kernel_rfl)
noncomputable abbrev U0 := tr [(5,17),(19,23)] false [] 0 Proofs.Tryd.f41
noncomputable def Je := CO U0
theorem Zt : U0 = some Je := Af (by kernel_rfl)
noncomputable abbrev Uz := tr [(5,8),(10,11)] false [] 0 Proofs.Tryd.f42
noncomputable def Jm := CO Uz
theorem Zv : Uz = some Jm := Af (by kernel_rfl)
noncomputable abbrev Vl := tr [(4,6),(8,12)] false [] 0 Proofs.Tryd.f43
noncomputable def KZ := CO Vl
theorem fJ : Vl = some KZ := Af (by kernel_rfl)
noncomputable abbrev VG := tr [(4,4),(6,7)] false [] 0 Proofs.Tryd.f44
noncomputable def Jd := CO VG
theorem aN : VG = some Jd := Af (by kernel_rfl)
noncomputable abbrev Wh := tr [(11,44),(46,46)] false [] 0 Proofs.Tryd.f45
noncomputable def MF := CO Wh
theorem jG : Wh = some MF := Af (by kernel_rfl)
noncomputable abbrev Rk := tr [(6,12),(17,34),(36,38),(40,44),(54,62)] false [(2,opp [0,1,4,2,3,5]),(11,opp [0,1,2,4,3,5,6,7,8,9])] 0 Proofs.Tryd.f46
noncomputable def Iq := CO Rk
theorem Yo : Rk = some Iq := Af (by kernel_rfl)
noncomputable abbrev VE := tr [(4,8),(10,21)] false [] 0 Proofs.Tryd.f47
noncomputable def Ji := CO VE
theorem aG : VE = some Ji := Af (by kernel_rfl)
noncomputable abbrev O9 := tr [(3,3),(5,14)] false [] 0 Proofs.Tryd.f48
noncomputable def F8 := CO O9
theorem WM : O9 = some F8 := Af (by kernel_rfl)
noncomputable abbrev MW := tr [(4,14)] false [] 0 Proofs.Tryd.f49
noncomputable def EZ := CO MW
theorem UO : MW = some EZ := Af (by kernel_rfl)
noncomputable abbrev KT := tr [(17,19),(21,41),(94,98),(100,109),(136,138),(140,144),(158,160),(162,166)] false [(7,Zm 15),(8,Zm 15),(9,Zm 15),(10,Zm 15),(17,Zm 15),(18,Zm 15),(23,Zm 15)] 0 Proofs.Tryd.f50
noncomputable def D6 := CO KT
theorem Qw : KT = some D6 := Af (by kernel_rfl)
noncomputable abbrev LW := tr [(19,27),(29,29),(31,33),(35,45),(47,67),(69,88),(90,93),(95,101)] false [] 0 Proofs.Tryd.f51
noncomputable def EO := CO LW
theorem Rz : LW = some EO := Af (by kernel_rfl)
noncomputable abbrev YD := tr [(7,15),(26,43)] false [(3,Zm 10)] 0 Proofs.Tryd.f58
noncomputable def Nj := CO YD
theorem kV : YD = some Nj := Af (by kernel_rfl)
noncomputable abbrev U5 := tr [(5,7)] false [] 0 Proofs.Tryd.f59
noncomputable def Jw := CO U5
theorem aJ : U5 = some Jw := Af (by kernel_rfl)
noncomputable abbrev U2 := tr [(5,7)] false [] 0 Proofs.Tryd.f60
noncomputable def Jr := CO U2
theorem bP : U2 = some Jr := Af (by kernel_rfl)
noncomputable abbrev pz := tr [(3,8)] false [] 0 Proofs.Tryd.f61
noncomputable def VK := CO pz
theorem yQ : pz = some VK := Af (by kernel_rfl)
noncomputable abbrev ZV := tr [(33,34)] false [(2,Zm 27),(4,Zm 16)] 0 Proofs.Tryd.f62
noncomputable def OZ := CO ZV
theorem ny : ZV = some OZ := Af (by kernel_rfl)
noncomputable abbrev oh := tr [(3,16)] false [] 0 Proofs.Tryd.f63
noncomputable def VJ := CO oh
theorem yX : oh = some VJ := Af (by kernel_rfl)
noncomputable abbrev pO := tr [(3,8)] false [] 0 Proofs.Tryd.f64
noncomputable def VT := CO pO
theorem zu : pO = some VT := Af (by kernel_rfl)
noncomputable abbrev qC := tr [(5,25)] false [] 0 Proofs.Tryd.f65
noncomputable def Vd := CO qC
theorem zL : qC = some Vd := Af (by kernel_rfl)
noncomputable abbrev oZ := tr [(3,8)] false [] 0 Proofs.Tryd.f66
noncomputable def VY := CO oZ
theorem yV : oZ = some VY := Af (by kernel_rfl)
noncomputable abbrev kZ := tr [(7,7),(12,20),(22,23)] false [] 0 Proofs.Tryd.f67
noncomputable def Sm := CO kZ
theorem wH : kZ = some Sm := Af (by kernel_rfl)
noncomputable abbrev U4 := tr [(4,11),(13,21)] false [] 0 Proofs.Tryd.f68
noncomputable def J3 := CO U4
theorem Zy : U4 = some J3 := Af (by kernel_rfl)
noncomputable abbrev U6 := tr [(4,6),(8,13)] false [] 0 Proofs.Tryd.f69
noncomputable def Jj := CO U6
theorem dI : U6 = some Jj := Af (by kernel_rfl)
noncomputable abbrev UR := tr [(4,14),(16,21)] true [] 95 Proofs.Tryd.f70
noncomputable def JH := CO UR
theorem Zk : UR = some JH := Af (by kernel_rfl)
noncomputable abbrev MV := tr [(3,5)] false [] 0 Proofs.Tryd.f71
noncomputable def EX := CO MV
theorem TT : MV = some EX := Af (by kernel_rfl)
noncomputable abbrev XB := tr [(3,3),(5,7),(9,13),(15,24)] false [] 0 Proofs.Tryd.f72
noncomputable def L6 := CO XB
theorem gW : XB = some L6 := Af (by kernel_rfl)
noncomputable abbrev MS := tr [] false [] 0 Proofs.Tryd.f73
noncomputable def EY := CO MS
theorem Sz : MS = some EY := Af (by kernel_rfl)
noncomputable abbrev KR := tr [(3,7)] false [] 0 Proofs.Tryd.f74
noncomputable def D7 := CO KR
theorem QY : KR = some D7 := Af (by kernel_rfl)
noncomputable abbrev Ot := tr [(3,7)] false [] 0 Proofs.Tryd.f75
noncomputable def FU := CO Ot
theorem Vu : Ot = some FU := Af (by kernel_rfl)
noncomputable abbrev Jo := tr [(5,17)] false [] 0 Proofs.Tryd.f81
noncomputable def Dy := CO Jo
theorem QJ : Jo = some Dy := Af (by kernel_rfl)
noncomputable abbrev Jl := tr [(5,7)] false [] 0 Proofs.Tryd.f82
noncomputable def Dz := CO Jl
theorem QL : Jl = some Dz := Af (by kernel_rfl)
noncomputable abbrev xw := tr [(1,1)] false [] 0 Proofs.Tryd.f83
noncomputable def ZN := CO xw
theorem ADY : xw = some ZN := Af (by kernel_rfl)
noncomputable abbrev sJ := tr [(1,1)] false [] 0 Proofs.Tryd.f84
noncomputable def XF := CO sJ
theorem ABk : sJ = some XF := Af (by kernel_rfl)
noncomputable abbrev ABj := tr [(3,4)] false [] 0 Proofs.Tryd.f85
noncomputable def dX := CO ABj
theorem AFc : ABj = some dX := Af (by kernel_rfl)
noncomputable abbrev Uy := tr [(3,13),(15,17)] false [] 0 Proofs.Tryd.f86
noncomputable def Jz := CO Uy
theorem Z7 : Uy = some Jz := Af (by kernel_rfl)
noncomputable abbrev U3 := tr [(4,13),(15,30),(32,36),(38,48),(50,56),(58,68)] false [] 0 Proofs.Tryd.f87
noncomputable def Jy := CO U3
theorem dD : U3 = some Jy := Af (by kernel_rfl)
noncomputable abbrev Nk := tr [(3,3),(5,13)] false [] 0 Proofs.Tryd.f88
noncomputable def Ew := CO Nk
theorem Uw : Nk = some Ew := Af (by kernel_rfl)
noncomputable abbrev NT := tr [(3,3),(5,13)] false [] 0 Proofs.Tryd.f89
noncomputable def Ey := CO NT
theorem Uf : NT = some Ey := Af (by kernel_rfl)
noncomputable abbrev RP := tr [(1,7)] false [] 0 Proofs.Tryd.f95
noncomputable def Iw := CO RP
theorem YX : RP = some Iw := Af (by kernel_rfl)
noncomputable abbrev VA := tr [(3,7)] true [] 95 Proofs.Tryd.f96
noncomputable def Jq := CO VA
theorem dA : VA = some Jq := Af (by kernel_rfl)
noncomputable abbrev Rj := tr [(4,24),(26,27),(29,36)] true [] 95 Proofs.Tryd.f97
noncomputable def Il := CO Rj
theorem Yx : Rj = some Il := Af (by kernel_rfl)
noncomputable abbrev TU := tr [(5,6),(15,17),(19,25),(27,40),(42,46)] false [(1,Zm 10),(8,Zm 16)] 0 Proofs.Tryd.f98
noncomputable def JE := CO TU
theorem Zf : TU = some JE := Af (by kernel_rfl)
noncomputable abbrev RV := tr [(11,15),(17,19),(27,27)] false [(4,Zm 8)] 0 Proofs.Tryd.f103
noncomputable def Iz := CO RV
theorem Ye : RV = some Iz := Af (by kernel_rfl)
noncomputable abbrev RY := tr [(2,5)] false [] 0 Proofs.Tryd.f104
noncomputable def Ip := CO RY
theorem Yw : RY = some Ip := Af (by kernel_rfl)
noncomputable abbrev QB := tr [(6,10),(12,13),(23,23)] false [(5,Zm 10)] 0 Proofs.Tryd.f105
noncomputable def Gi := CO QB
theorem XM : QB = some Gi := Af (by kernel_rfl)
noncomputable abbrev Ol := tr [(2,5)] false [] 0 Proofs.Tryd.f106
noncomputable def FW := CO Ol
theorem Vq : Ol = some FW := Af (by kernel_rfl)
noncomputable abbrev TY := tr [(9,12),(14,15),(25,25)] false [(4,Zm 10)] 0 Proofs.Tryd.f107
noncomputable def JD := CO TY
theorem Ze : TY = some JD := Af (by kernel_rfl)
noncomputable abbrev Nc := tr [(2,6)] false [] 0 Proofs.Tryd.f108
noncomputable def Ez := CO Nc
theorem Un : Nc = some Ez := Af (by kernel_rfl)
noncomputable abbrev UM := tr [(9,15),(20,25),(27,30),(42,46),(48,51),(62,62)] true [(8,Zm 15),(16,opp [0,1,2,3,6,7,4,5,8,9])] 95 Proofs.Tryd.f109
noncomputable def JK := CO UM
theorem Zl : UM = some JK := Af (by kernel_rfl)
noncomputable abbrev Td := tr [(5,14),(16,17),(24,26),(28,33)] false [(5,Zm 7)] 0 Proofs.Tryd.f110
noncomputable def JJ := CO Td
theorem Zh : Td = some JJ := Af (by kernel_rfl)
noncomputable abbrev U7 := tr [(5,15),(17,20),(22,26),(32,36),(42,59),(61,63),(65,67),(69,71),(73,75),(77,83),(85,95),(97,98),(100,107)] false [(8,Zm 6),(11,Zm 6)] 0 Proofs.Tryd.f111
noncomputable def Jv := CO U7
theorem dG : U7 = some Jv := Af (by kernel_rfl)
noncomputable abbrev Ru := tr [(8,8),(10,18),(20,24)] false [(6,Zm 9)] 0 Proofs.Tryd.f112
noncomputable def Io := CO Ru
theorem Y6 : Ru = some Io := Af (by kernel_rfl)
noncomputable abbrev U8 := tr [(4,12),(14,15),(17,29)] false [] 0 Proofs.Tryd.f113
noncomputable def J6 := CO U8
theorem bf : U8 = some J6 := Af (by kernel_rfl)
noncomputable abbrev YT := tr [(3,22)] false [] 0 Proofs.Tryd.f114
noncomputable def NR := CO YT
theorem jf : YT = some NR := Af (by kernel_rfl)
noncomputable def F : T AF := (.n none (.n none (.n none (.n (some Ht) (.n none (.n none (.n (some VJ) .e .e) (.n (some Iw) .e .e)) (.n (some Ji) .e (.n (some Jv) .e .e))) (.n none (.n (some Nh) (.n (some EX) .e .e) (.n (some Iz) .e .e)) (.n none (.n (some Jy) .e .e) .e))) (.n none (.n (some Oa) (.n none (.n (some Sm) .e .e) .e) (.n (some EO) (.n (some ZN) .e .e) .e)) (.n none (.n (some KZ) (.n (some FU) .e .e) (.n (some JD) .e .e)) (.n (some Jw) .e .e)))) (.n none (.n (some NV) (.n (some GI) (.n none (.n (some Vd) .e .e) (.n (some Il) .e .e)) (.n (some EZ) (.n (some Dy) .e .e) (.n (some J6) .e .e))) (.n (some JF) (.n (some Je) (.n (some EY) .e .e) (.n (some Gi) .e .e)) (.n none (.n (some Ey) .e .e) .e))) (.n none (.n (some OW) (.n none (.n (some Jj) .e .e) .e) (.n none (.n (some dX) .e .e) .e)) (.n (some Ea) (.n (some MF) .e (.n (some JK) .e .e)) (.n (some VK) .e .e))))) (.n none (.n none (.n none (.n none (.n none (.n (some VT) .e .e) (.n (some Jq) .e .e)) (.n (some F8) .e (.n (some Io) .e .e))) (.n (some Yq) (.n (some Jb) (.n (some L6) .e .e) (.n (some Ip) .e .e)) (.n none (.n (some Ew) .e .e) .e))) (.n none (.n (some Jt) (.n none (.n (some J3) .e .e) .e) (.n none (.n (some XF) .e .e) .e)) (.n none (.n (some Jd) .e (.n (some Ez) .e .e)) (.n (some Jr) .e .e)))) (.n none (.n (some Qo) (.n (some GH) (.n none (.n (some VY) .e .e) (.n (some JE) .e .e)) (.n (some D6) (.n (some Dz) .e .e) (.n (some NR) .e .e))) (.n (some Lr) (.n (some Jm) (.n (some D7) .e .e) (.n (some FW) .e .e)) (.n (some Nj) .e .e))) (.n none (.n none (.n (some Nl) (.n (some JH) .e .e) .e) (.n none (.n (some Jz) .e .e) .e)) (.n (some Ba) (.n (some Iq) .e (.n (some JJ) .e .e)) (.n (some OZ) .e .e))))))
theorem Kq : T.get F 7 = some Ht := by kernel_rfl
theorem Qy : T.get F 9 = some NV := by kernel_rfl
theorem V9 : T.get F 10 = some Qo := by kernel_rfl
theorem JW : T.get F 17 = some GI := by kernel_rfl
theorem JX : T.get F 18 = some GH := by kernel_rfl
theorem Kr : T.get F 19 = some Oa := by kernel_rfl
theorem OT : T.get F 20 = some Jt := by kernel_rfl
theorem SQ : T.get F 21 = some OW := by kernel_rfl
theorem iR : T.get F 24 = some Yq := by kernel_rfl
theorem NK : T.get F 25 = some JF := by kernel_rfl
theorem Po : T.get F 26 = some Lr := by kernel_rfl
theorem G6 : T.get F 29 = some Ea := by kernel_rfl
theorem CS : T.get F 30 = some Ba := by kernel_rfl
theorem Qi : T.get F 38 = some Nl := by kernel_rfl
theorem QT : T.get F 39 = some Nh := by kernel_rfl
theorem OC : T.get F 40 = some Jb := by kernel_rfl
theorem OE : T.get F 41 = some Je := by kernel_rfl
theorem OV : T.get F 42 = some Jm := by kernel_rfl
theorem Oy : T.get F 43 = some KZ := by kernel_rfl
theorem Ns : T.get F 44 = some Jd := by kernel_rfl
theorem Pq : T.get F 45 = some MF := by kernel_rfl
theorem Lm : T.get F 46 = some Iq := by kernel_rfl
theorem OM : T.get F 47 = some Ji := by kernel_rfl
theorem JU : T.get F 48 = some F8 := by kernel_rfl
theorem Gq : T.get F 49 = some EZ := by kernel_rfl
theorem FV : T.get F 50 = some D6 := by kernel_rfl
theorem SV : T.get F 51 = some EO := by kernel_rfl
theorem QX : T.get F 58 = some Nj := by kernel_rfl
theorem OB : T.get F 59 = some Jw := by kernel_rfl
theorem OI : T.get F 60 = some Jr := by kernel_rfl
theorem Yr : T.get F 61 = some VK := by kernel_rfl
theorem SA : T.get F 62 = some OZ := by kernel_rfl
theorem YU : T.get F 63 = some VJ := by kernel_rfl
theorem Yd : T.get F 64 = some VT := by kernel_rfl
theorem Yb : T.get F 65 = some Vd := by kernel_rfl
theorem Yz : T.get F 66 = some VY := by kernel_rfl
theorem Xm : T.get F 67 = some Sm := by kernel_rfl
theorem Nz : T.get F 68 = some J3 := by kernel_rfl
theorem N8 : T.get F 69 = some Jj := by kernel_rfl
theorem Md : T.get F 70 = some JH := by kernel_rfl
theorem Gy : T.get F 71 = some EX := by kernel_rfl
theorem Pg : T.get F 72 = some L6 := by kernel_rfl
theorem G9 : T.get F 73 = some EY := by kernel_rfl
theorem Qc : T.get F 74 = some D7 := by kernel_rfl
theorem WE : T.get F 75 = some FU := by kernel_rfl
theorem FI : T.get F 81 = some Dy := by kernel_rfl
theorem FK : T.get F 82 = some Dz := by kernel_rfl
theorem jA : T.get F 83 = some ZN := by kernel_rfl
theorem bC : T.get F 84 = some XF := by kernel_rfl
theorem mM : T.get F 85 = some dX := by kernel_rfl
theorem N7 : T.get F 86 = some Jz := by kernel_rfl
theorem OG : T.get F 87 = some Jy := by kernel_rfl
theorem Uk : T.get F 88 = some Ew := by kernel_rfl
theorem Ux : T.get F 89 = some Ey := by kernel_rfl
theorem Di : T.get F 95 = some Iw := by kernel_rfl
theorem OH : T.get F 96 = some Jq := by kernel_rfl
theorem MB : T.get F 97 = some Il := by kernel_rfl
theorem NC : T.get F 98 = some JE := by kernel_rfl
theorem Lp : T.get F 103 = some Iz := by kernel_rfl
theorem L8 : T.get F 104 = some Ip := by kernel_rfl
theorem KC : T.get F 105 = some Gi := by kernel_rfl
theorem I7 : T.get F 106 = some FW := by kernel_rfl
theorem NP : T.get F 107 = some JD := by kernel_rfl
theorem Hw : T.get F 108 = some Ez := by kernel_rfl
theorem NQ : T.get F 109 = some JK := by kernel_rfl
theorem ND : T.get F 110 = some JJ := by kernel_rfl
theorem Ny : T.get F 111 = some Jv := by kernel_rfl
theorem MC : T.get F 112 = some Io := by kernel_rfl
theorem OJ : T.get F 113 = some J6 := by kernel_rfl
theorem Qh : T.get F 114 = some NR := by kernel_rfl
end Go.PQ
namespace Go.PQ
open Go.Eng
set_option maxRecDepth 100000
abbrev Fg (n : Nat) (a : AF) : Prop := iF Go.Proofs.Tryd.prog F n a
theorem WL : Fg 7 Ht := .one Proofs.Tryd.func7 (by kernel_rfl) X9 (by kernel_rfl) (by kernel_rfl)
theorem fD : Fg 9 NV := .one Proofs.Tryd.func9 (by kernel_rfl) jw (by kernel_rfl) (by kernel_rfl)
theorem ni : Fg 10 Qo := .one Proofs.Tryd.func10 (by kernel_rfl) uY (by kernel_rfl) (by kernel_rfl)
theorem VN : Fg 17 GI := .one Proofs.Tryd.func17 (by kernel_rfl) WQ (by kernel_rfl) (by kernel_rfl)
theorem VX : Fg 18 GH := .one Proofs.Tryd.func18 (by kernel_rfl) WT (by kernel_rfl) (by kernel_rfl)
theorem ig : Fg 19 Oa := .one Proofs.Tryd.func19 (by kernel_rfl) nZ (by kernel_rfl) (by kernel_rfl)
theorem YZ : Fg 20 Jt := .one Proofs.Tryd.func20 (by kernel_rfl) dM (by kernel_rfl) (by kernel_rfl)
theorem jH : Fg 21 OW := .one Proofs.Tryd.func21 (by kernel_rfl) oG (by kernel_rfl) (by kernel_rfl)
theorem zV : Fg 24 Yq := .one Proofs.Tryd.func24 (by kernel_rfl) ADG (by kernel_rfl) (by kernel_rfl)
theorem Xr : Fg 25 JF := .one Proofs.Tryd.func25 (by kernel_rfl) ZX (by kernel_rfl) (by kernel_rfl)
theorem aS : Fg 26 Lr := .one Proofs.Tryd.func26 (by kernel_rfl) iQ (by kernel_rfl) (by kernel_rfl)
theorem RH : Fg 29 Ea := .one Proofs.Tryd.func29 (by kernel_rfl) TJ (by kernel_rfl) (by kernel_rfl)
theorem Gl : Fg 30 Ba := .one Proofs.Tryd.func30 (by kernel_rfl) Hl (by kernel_rfl) (by kernel_rfl)
theorem fK : Fg 38 Nl := .one Proofs.Tryd.func38 (by kernel_rfl) lT (by kernel_rfl) (by kernel_rfl)
theorem eu : Fg 39 Nh := .one Proofs.Tryd.func39 (by kernel_rfl) jl (by kernel_rfl) (by kernel_rfl)
theorem Yc : Fg 40 Jb := .one Proofs.Tryd.func40 (by kernel_rfl) bY (by kernel_rfl) (by kernel_rfl)
theorem ZB : Fg 41 Je := .one Proofs.Tryd.func41 (by kernel_rfl) Zt (by kernel_rfl) (by kernel_rfl)
theorem Y8 : Fg 42 Jm := .one Proofs.Tryd.func42 (by kernel_rfl) Zv (by kernel_rfl) (by kernel_rfl)
theorem Zj : Fg 43 KZ := .one Proofs.Tryd.func43 (by kernel_rfl) fJ (by kernel_rfl) (by kernel_rfl)
theorem ZF : Fg 44 Jd := .one Proofs.Tryd.func44 (by kernel_rfl) aN (by kernel_rfl) (by kernel_rfl)
theorem aV : Fg 45 MF := .one Proofs.Tryd.func45 (by kernel_rfl) jG (by kernel_rfl) (by kernel_rfl)
theorem Xh : Fg 46 Iq := .one Proofs.Tryd.func46 (by kernel_rfl) Yo (by kernel_rfl) (by kernel_rfl)
theorem Yk : Fg 47 Ji := .one Proofs.Tryd.func47 (by kernel_rfl) aG (by kernel_rfl) (by kernel_rfl)
theorem VZ : Fg 48 F8 := .one Proofs.Tryd.func48 (by kernel_rfl) WM (by kernel_rfl) (by kernel_rfl)
theorem RI : Fg 49 EZ := .one Proofs.Tryd.func49 (by kernel_rfl) UO (by kernel_rfl) (by kernel_rfl)
theorem Px : Fg 50 D6 := .one Proofs.Tryd.func50 (by kernel_rfl) Qw (by kernel_rfl) (by kernel_rfl)
theorem QM : Fg 51 EO := .one Proofs.Tryd.func51 (by kernel_rfl) Rz (by kernel_rfl) (by kernel_rfl)
theorem fC : Fg 58 Nj := .one Proofs.Tryd.func58 (by kernel_rfl) kV (by kernel_rfl) (by kernel_rfl)
theorem ZA : Fg 59 Jw := .one Proofs.Tryd.func59 (by kernel_rfl) aJ (by kernel_rfl) (by kernel_rfl)
theorem ZO : Fg 60 Jr := .one Proofs.Tryd.func60 (by kernel_rfl) bP (by kernel_rfl) (by kernel_rfl)
theorem rM : Fg 61 VK := .one Proofs.Tryd.func61 (by kernel_rfl) yQ (by kernel_rfl) (by kernel_rfl)
theorem iP : Fg 62 OZ := .one Proofs.Tryd.func62 (by kernel_rfl) ny (by kernel_rfl) (by kernel_rfl)
theorem uw : Fg 63 VJ := .one Proofs.Tryd.func63 (by kernel_rfl) yX (by kernel_rfl) (by kernel_rfl)
theorem uI : Fg 64 VT := .one Proofs.Tryd.func64 (by kernel_rfl) zu (by kernel_rfl) (by kernel_rfl)
theorem uf : Fg 65 Vd := .one Proofs.Tryd.func65 (by kernel_rfl) zL (by kernel_rfl) (by kernel_rfl)
theorem tN : Fg 66 VY := .one Proofs.Tryd.func66 (by kernel_rfl) yV (by kernel_rfl) (by kernel_rfl)
theorem qL : Fg 67 Sm := .one Proofs.Tryd.func67 (by kernel_rfl) wH (by kernel_rfl) (by kernel_rfl)
theorem Yg : Fg 68 J3 := .one Proofs.Tryd.func68 (by kernel_rfl) Zy (by kernel_rfl) (by kernel_rfl)
theorem ZJ : Fg 69 Jj := .one Proofs.Tryd.func69 (by kernel_rfl) dI (by kernel_rfl) (by kernel_rfl)
theorem Xz : Fg 70 JH := .two Proofs.Tryd.func70 (by kernel_rfl) Zk (by kernel_rfl) Di (by kernel_rfl)
theorem Q9 : Fg 71 EX := .one Proofs.Tryd.func71 (by kernel_rfl) TT (by kernel_rfl) (by kernel_rfl)
theorem bT : Fg 72 L6 := .one Proofs.Tryd.func72 (by kernel_rfl) gW (by kernel_rfl) (by kernel_rfl)
theorem RF : Fg 73 EY := .one Proofs.Tryd.func73 (by kernel_rfl) Sz (by kernel_rfl) (by kernel_rfl)
theorem Pj : Fg 74 D7 := .one Proofs.Tryd.func74 (by kernel_rfl) QY (by kernel_rfl) (by kernel_rfl)
theorem Ul : Fg 75 FU := .one Proofs.Tryd.func75 (by kernel_rfl) Vu (by kernel_rfl) (by kernel_rfl)
theorem PO : Fg 81 Dy := .one Proofs.Tryd.func81 (by kernel_rfl) QJ (by kernel_rfl) (by kernel_rfl)
theorem PI : Fg 82 Dz := .one Proofs.Tryd.func82 (by kernel_rfl) QL (by kernel_rfl) (by kernel_rfl)
theorem AAb : Fg 83 ZN := .one Proofs.Tryd.func83 (by kernel_rfl) ADY (by kernel_rfl) (by kernel_rfl)
theorem wC : Fg 84 XF := .one Proofs.Tryd.func84 (by kernel_rfl) ABk (by kernel_rfl) (by kernel_rfl)
theorem AB5 : Fg 85 dX := .one Proofs.Tryd.func85 (by kernel_rfl) AFc (by kernel_rfl) (by kernel_rfl)
theorem Yf : Fg 86 Jz := .one Proofs.Tryd.func86 (by kernel_rfl) Z7 (by kernel_rfl) (by kernel_rfl)
theorem Ya : Fg 87 Jy := .one Proofs.Tryd.func87 (by kernel_rfl) dD (by kernel_rfl) (by kernel_rfl)
theorem SK : Fg 88 Ew := .one Proofs.Tryd.func88 (by kernel_rfl) Uw (by kernel_rfl) (by kernel_rfl)
theorem SE : Fg 89 Ey := .one Proofs.Tryd.func89 (by kernel_rfl) Uf (by kernel_rfl) (by kernel_rfl)
theorem XR : Fg 95 Iw := .one Proofs.Tryd.func95 (by kernel_rfl) YX (by kernel_rfl) (by kernel_rfl)
theorem ZL : Fg 96 Jq := .two Proofs.Tryd.func96 (by kernel_rfl) dA (by kernel_rfl) Di (by kernel_rfl)
theorem Xa : Fg 97 Il := .two Proofs.Tryd.func97 (by kernel_rfl) Yx (by kernel_rfl) Di (by kernel_rfl)
theorem X3 : Fg 98 JE := .one Proofs.Tryd.func98 (by kernel_rfl) Zf (by kernel_rfl) (by kernel_rfl)
theorem XU : Fg 103 Iz := .one Proofs.Tryd.func103 (by kernel_rfl) Ye (by kernel_rfl) (by kernel_rfl)
theorem Xl : Fg 104 Ip := .one Proofs.Tryd.func104 (by kernel_rfl) Yw (by kernel_rfl) (by kernel_rfl)
theorem V7 : Fg 105 Gi := .one Proofs.Tryd.func105 (by kernel_rfl) XM (by kernel_rfl) (by kernel_rfl)
theorem Ur : Fg 106 FW := .one Proofs.Tryd.func106 (by kernel_rfl) Vq (by kernel_rfl) (by kernel_rfl)
theorem YF : Fg 107 JD := .one Proofs.Tryd.func107 (by kernel_rfl) Ze (by kernel_rfl) (by kernel_rfl)
theorem SX : Fg 108 Ez := .one Proofs.Tryd.func108 (by kernel_rfl) Un (by kernel_rfl) (by kernel_rfl)
theorem Xx : Fg 109 JK := .two Proofs.Tryd.func109 (by kernel_rfl) Zl (by kernel_rfl) Di (by kernel_rfl)
theorem Xq : Fg 110 JJ := .one Proofs.Tryd.func110 (by kernel_rfl) Zh (by kernel_rfl) (by kernel_rfl)
theorem Y4 : Fg 111 Jv := .one Proofs.Tryd.func111 (by kernel_rfl) dG (by kernel_rfl) (by kernel_rfl)
theorem XJ : Fg 112 Io := .one Proofs.Tryd.func112 (by kernel_rfl) Y6 (by kernel_rfl) (by kernel_rfl)
theorem Yv : Fg 113 J6 := .one Proofs.Tryd.func113 (by kernel_rfl) bf (by kernel_rfl) (by kernel_rfl)
theorem fF : Fg 114 NR := .one Proofs.Tryd.func114 (by kernel_rfl) jf (by kernel_rfl) (by kernel_rfl)
theorem all_good : T.All (fun p af => iF Go.Proofs.Tryd.prog F p.key af) F := (.n0 (.n0 (.n0 (.n1 WL (.n0 (.n0 (.n1 uw .e .e) (.n1 XR .e .e)) (.n1 Yk .e (.n1 Y4 .e .e))) (.n0 (.n1 eu (.n1 Q9 .e .e) (.n1 XU .e .e)) (.n0 (.n1 Ya .e .e) .e))) (.n0 (.n1 ig (.n0 (.n1 qL .e .e) .e) (.n1 QM (.n1 AAb .e .e) .e)) (.n0 (.n1 Zj (.n1 Ul .e .e) (.n1 YF .e .e)) (.n1 ZA .e .e)))) (.n0 (.n1 fD (.n1 VN (.n0 (.n1 uf .e .e) (.n1 Xa .e .e)) (.n1 RI (.n1 PO .e .e) (.n1 Yv .e .e))) (.n1 Xr (.n1 ZB (.n1 RF .e .e) (.n1 V7 .e .e)) (.n0 (.n1 SE .e .e) .e))) (.n0 (.n1 jH (.n0 (.n1 ZJ .e .e) .e) (.n0 (.n1 AB5 .e .e) .e)) (.n1 RH (.n1 aV .e (.n1 Xx .e .e)) (.n1 rM .e .e))))) (.n0 (.n0 (.n0 (.n0 (.n0 (.n1 uI .e .e) (.n1 ZL .e .e)) (.n1 VZ .e (.n1 XJ .e .e))) (.n1 zV (.n1 Yc (.n1 bT .e .e) (.n1 Xl .e .e)) (.n0 (.n1 SK .e .e) .e))) (.n0 (.n1 YZ (.n0 (.n1 Yg .e .e) .e) (.n0 (.n1 wC .e .e) .e)) (.n0 (.n1 ZF .e (.n1 SX .e .e)) (.n1 ZO .e .e)))) (.n0 (.n1 ni (.n1 VX (.n0 (.n1 tN .e .e) (.n1 X3 .e .e)) (.n1 Px (.n1 PI .e .e) (.n1 fF .e .e))) (.n1 aS (.n1 Y8 (.n1 Pj .e .e) (.n1 Ur .e .e)) (.n1 fC .e .e))) (.n0 (.n0 (.n1 fK (.n1 Xz .e .e) .e) (.n0 (.n1 Yf .e .e) .e)) (.n1 Gl (.n1 Xh .e (.n1 Xq .e .e)) (.n1 iP .e .e))))))
theorem ANj : vF Go.Proofs.Tryd.prog F := .ALY (by kernel_rfl) all_good
end Go.PQ
