/- Part of a proof: texts PQNm PQTr PQOk of the engine and what is proved with it; nothing is assumed. -/
import Derived.Test.YtcjkfmaoahojeaaDoorEngA
import Derived.Test.YtcjkfmaoahojeaaDoorEngF
import Derived.Test.YtcjkfmaoahojeaaDoorProg
set_option linter.unusedVariables false
set_option linter.unusedSimpArgs false
namespace Go.PQ
open Go.Eng
def q0 : P2 := .h
def q1 : P2 := .z q0
def q2 : P2 := .o q0
def q3 : P2 := .z q1
def q4 : P2 := .o q1
def q5 : P2 := .z q2
def q6 : P2 := .o q2
def q7 : P2 := .z q3
def q8 : P2 := .o q3
def q9 : P2 := .z q4
def q10 : P2 := .o q4
def q11 : P2 := .z q5
def q12 : P2 := .o q5
def q13 : P2 := .z q6
def q14 : P2 := .o q6
def q15 : P2 := .z q7
def q16 : P2 := .o q7
def q17 : P2 := .z q8
def q18 : P2 := .o q8
def q19 : P2 := .z q9
def q20 : P2 := .o q9
def q21 : P2 := .z q10
def q22 : P2 := .o q10
def q23 : P2 := .z q11
def q24 : P2 := .o q11
def q25 : P2 := .z q12
def q26 : P2 := .o q12
def q27 : P2 := .z q13
def q28 : P2 := .o q13
def q29 : P2 := .z q14
def q30 : P2 := .o q14
def q31 : P2 := .z q15
def q32 : P2 := .o q15
def q33 : P2 := .z q16
def q34 : P2 := .o q16
def q35 : P2 := .z q17
def q36 : P2 := .o q17
def q37 : P2 := .z q18
def q38 : P2 := .o q18
def q39 : P2 := .z q19
def q40 : P2 := .o q19
def q41 : P2 := .z q20
def q42 : P2 := .o q20
def q43 : P2 := .z q21
def q44 : P2 := .o q21
def q45 : P2 := .z q22
def q46 : P2 := .o q22
def q47 : P2 := .z q23
def q48 : P2 := .o q23
def q49 : P2 := .z q24
def q50 : P2 := .o q24
def q51 : P2 := .z q25
def q52 : P2 := .o q25
def q53 : P2 := .z q26
def q54 : P2 := .o q26
def q55 : P2 := .z q27
def q56 : P2 := .o q27
def q57 : P2 := .z q28
def q58 : P2 := .o q28
def q59 : P2 := .z q29
def q60 : P2 := .o q29
def q61 : P2 := .z q30
def q62 : P2 := .o q30
def q63 : P2 := .z q31
def q64 : P2 := .o q31
def q65 : P2 := .z q32
def q66 : P2 := .o q32
def q67 : P2 := .z q33
def q68 : P2 := .o q33
def q69 : P2 := .z q34
def q70 : P2 := .o q34
def q71 : P2 := .z q35
def q72 : P2 := .o q35
def q73 : P2 := .z q36
def q74 : P2 := .o q36
def q75 : P2 := .z q37
def q76 : P2 := .o q37
def q77 : P2 := .z q38
def q78 : P2 := .o q38
def q79 : P2 := .z q39
def q80 : P2 := .o q39
def q81 : P2 := .z q40
def q82 : P2 := .o q40
def q83 : P2 := .z q41
def q84 : P2 := .o q41
def q85 : P2 := .z q42
def q86 : P2 := .o q42
def q87 : P2 := .z q43
def q88 : P2 := .o q43
def q89 : P2 := .z q44
def q90 : P2 := .o q44
def q91 : P2 := .z q45
def q92 : P2 := .o q45
def q93 : P2 := .z q46
def q94 : P2 := .o q46
def q95 : P2 := .z q47
def q96 : P2 := .o q47
def q97 : P2 := .z q48
def q98 : P2 := .o q48
def q99 : P2 := .z q49
def AWc : P2 := .o q49
def AW5 : P2 := .z q50
def AWf : P2 := .o q50
def AXo : P2 := .z q51
def AXr : P2 := .o q51
def AXP : P2 := .z q52
def AXf : P2 := .o q52
def AXF : P2 := .z q53
def AWE : P2 := .o q53
def AWe : P2 := .z q54
def AXK : P2 := .o q54
def AWd : P2 := .z q55
def AXS : P2 := .o q55
def AXq : P2 := .z q56
def AV3 : P2 := .o q56
def AVw : P2 := .z q57
def AVx : P2 := .o q57
def AWz : P2 := .z q58
def AV0 : P2 := .o q58
def AWb : P2 := .z q59
def AW8 : P2 := .o q59
def AWS : P2 := .z q60
def AXI : P2 := .o q60
def AW6 : P2 := .z q61
def AV6 : P2 := .o q61
def AXU : P2 := .z q62
def AVn : P2 := .o q62
def AWP : P2 := .z q63
def AXj : P2 := .o q63
def AWw : P2 := .z q64
def AXh : P2 := .o q64
def AWH : P2 := .z q65
def AVy : P2 := .o q65
def AXY : P2 := .z q66
def AVl : P2 := .o q66
def AWK : P2 := .z q67
def AVp : P2 := .o q67
def AWx : P2 := .z q68
def AWV : P2 := .o q68
def AWO : P2 := .z q69
def AWA : P2 := .o q69
def AWn : P2 := .z q70
def AXl : P2 := .o q70
def AXa : P2 := .z q71
def AWp : P2 := .o q71
def AWs : P2 := .z q72
def AXH : P2 := .o q72
def AWg : P2 := .z q73
def AVv : P2 := .o q73
def AWC : P2 := .z q74
def AWv : P2 := .o q74
def AWh : P2 := .z q75
def AWk : P2 := .o q75
def AXG : P2 := .z q76
def AXR : P2 := .o q76
def AXv : P2 := .z q77
def AXW : P2 := .o q77
def AWl : P2 := .z q78
def AWQ : P2 := .o q78
def AXL : P2 := .z q79
def AXQ : P2 := .o q79
def AXV : P2 := .z q80
def AVq : P2 := .o q80
def AV2 : P2 := .z q81
def AWJ : P2 := .o q81
def AVi : P2 := .z q82
def AWR : P2 := .o q82
def AWD : P2 := .z q83
abbrev Yv : Nat := 6
abbrev X8 : Nat := 9
abbrev XV : Nat := 10
abbrev ay : Nat := 13
abbrev ZF : Nat := 14
abbrev Ll : Nat := 15
abbrev ZE : Nat := 16
abbrev UR : Nat := 19
abbrev wG : Nat := 24
abbrev TV : Nat := 25
abbrev C9 : Nat := 26
abbrev Xl : Nat := 27
abbrev Wi : Nat := 28
abbrev Lu : Nat := 29
abbrev Xp : Nat := 38
abbrev Xb : Nat := 39
abbrev Ar : Nat := 40
abbrev CP : Nat := 41
abbrev AZ : Nat := 42
abbrev Ij : Nat := 43
abbrev IB : Nat := 44
abbrev Bv : Nat := 45
abbrev RN : Nat := 46
abbrev Bc : Nat := 47
abbrev O4 : Nat := 48
abbrev L6 : Nat := 49
abbrev J6 : Nat := 50
abbrev TY : Nat := 51
abbrev Ih : Nat := 58
abbrev J8 : Nat := 59
abbrev Oh : Nat := 60
abbrev Z9 : Nat := 61
abbrev PD : Nat := 62
abbrev aU : Nat := 63
abbrev Zz : Nat := 64
abbrev pV : Nat := 65
abbrev WO : Nat := 66
abbrev jD : Nat := 67
abbrev Bh : Nat := 68
abbrev Oe : Nat := 69
abbrev Gi : Nat := 70
abbrev Ls : Nat := 71
abbrev WE : Nat := 72
abbrev MH : Nat := 73
abbrev Qk : Nat := 74
abbrev V7 : Nat := 75
abbrev QY : Nat := 81
abbrev QG : Nat := 82
abbrev wV : Nat := 83
abbrev uS : Nat := 84
abbrev jF : Nat := 85
abbrev Hw : Nat := 86
abbrev EJ : Nat := 87
abbrev VB : Nat := 88
abbrev U4 : Nat := 89
abbrev CB : Nat := 95
abbrev Ba : Nat := 96
abbrev ES : Nat := 97
abbrev Si : Nat := 98
abbrev MJ : Nat := 103
abbrev MI : Nat := 104
abbrev KR : Nat := 105
abbrev FY : Nat := 106
abbrev OB : Nat := 107
abbrev IK : Nat := 108
abbrev Bl : Nat := 109
abbrev TW : Nat := 110
abbrev Uy : Nat := 111
abbrev Qy : Nat := 112
abbrev Oc : Nat := 113
abbrev Xa : Nat := 114
end Go.PQ
namespace Go.PQ
open Go.Eng
set_option maxRecDepth 100000
noncomputable abbrev tr (l : List (Nat × Nat)) (d : Bool) (o : ACs) (g : Nat) (f : Func) : Option AF := trF Go.Proofs.Tryd.prog (inR l) d o g f
noncomputable abbrev QT := tr [(9,9),(11,12),(42,43),(45,55)] false [(4,opp [0,4,8,12,16,17,20,21,29,30,1,2,3,5,6,7,9,10,11,13,14,15,18,19,22,23,24,25,26,27,28,31,32]),(9,Zg 54)] 0 Proofs.Tryd.f6
noncomputable def Gx := Bj QT
theorem Xm : QT = some Gx := Af (by kernel_rfl)
noncomputable abbrev Xg := tr [(3,41)] false [] 0 Proofs.Tryd.f9
noncomputable def NI := Bj Xg
theorem jX : Xg = some NI := Af (by kernel_rfl)
noncomputable abbrev fH := tr [(8,14),(18,24),(31,32)] false [(3,Zg 4),(7,Zg 7)] 0 Proofs.Tryd.f10
noncomputable def QW := Bj fH
theorem uY : fH = some QW := Af (by kernel_rfl)
noncomputable abbrev bF := tr [(3,4)] false [] 0 Proofs.Tryd.f13
noncomputable def O8 := Bj bF
theorem qI : bF = some O8 := Af (by kernel_rfl)
noncomputable abbrev ZA := tr [(4,7),(9,14)] false [(4,opp [0,3,4,7,8,1,2,5,6,9,10])] 0 Proofs.Tryd.f14
noncomputable def OL := Bj ZA
theorem mG : ZA = some OL := Af (by kernel_rfl)
noncomputable abbrev ZG := tr [(3,3),(5,9)] false [] 0 Proofs.Tryd.f15
noncomputable def OJ := Bj ZG
theorem mV : ZG = some OJ := Af (by kernel_rfl)
noncomputable abbrev ZL := tr [(3,5)] false [] 0 Proofs.Tryd.f16
noncomputable def OC := Bj ZL
theorem lW : ZL = some OC := Af (by kernel_rfl)
noncomputable abbrev ZK := tr [(6,41)] false [(3,Zg 4),(4,Zg 13)] 0 Proofs.Tryd.f19
noncomputable def OG := Bj ZK
theorem lX : ZK = some OG := Af (by kernel_rfl)
noncomputable abbrev yB := tr [(8,13),(20,27),(35,40),(42,43)] false [(3,Zg 7),(8,Zg 8)] 0 Proofs.Tryd.f24
noncomputable def YL := Bj yB
theorem ACj : yB = some YL := Af (by kernel_rfl)
noncomputable abbrev Sj := tr [(5,19),(21,32),(34,35),(37,40),(50,57),(59,61),(69,84),(86,88)] false [(11,opp [0,1,2,4,3,5,6,7,8,9]),(15,Zg 8)] 0 Proofs.Tryd.f25
noncomputable def I8 := Bj Sj
theorem ZR : Sj = some I8 := Af (by kernel_rfl)
noncomputable abbrev WY := tr [(3,8)] false [] 0 Proofs.Tryd.f26
noncomputable def LX := Bj WY
theorem gZ : WY = some LX := Af (by kernel_rfl)
noncomputable abbrev Pg := tr [(3,4)] false [] 0 Proofs.Tryd.f27
noncomputable def GH := Bj Pg
theorem W9 : Pg = some GH := Af (by kernel_rfl)
noncomputable abbrev WH := tr [(3,9)] false [] 0 Proofs.Tryd.f28
noncomputable def LU := Bj WH
theorem iF : WH = some LU := Af (by kernel_rfl)
noncomputable abbrev Lp := tr [(8,8),(10,10),(12,16),(18,22),(24,33),(35,53)] false [] 0 Proofs.Tryd.f29
noncomputable def EO := Bj Lp
theorem TB : Lp = some EO := Af (by kernel_rfl)
noncomputable abbrev Xr := tr [(24,39),(61,61),(73,75)] false [(0,Zg 10),(1,Zg 10),(4,Zg 11),(5,Zg 11),(7,Zg 11)] 0 Proofs.Tryd.f38
noncomputable def Md := Bj Xr
theorem jJ : Xr = some Md := Af (by kernel_rfl)
noncomputable abbrev Xt := tr [(9,13),(24,24),(37,37),(49,52),(54,59),(61,68),(70,70),(72,85),(87,87),(89,92),(94,109)] false [(2,Zg 10),(4,Zg 10),(8,Zg 11)] 0 Proofs.Tryd.f39
noncomputable def NH := Bj Xt
theorem je : Xt = some NH := Af (by kernel_rfl)
noncomputable abbrev Uw := tr [(10,14),(16,18)] false [] 0 Proofs.Tryd.f40
noncomputable def JZ := Bj Uw
theorem aJ : Uw = some JZ := Af (by kernel_rfl)
noncomputable abbrev Ut := tr [(5,17),(19,23)] false [] 0 Proofs.Tryd.f41
noncomputable def JI := Bj Ut
theorem Zr : Ut = some JI := Af (by kernel_rfl)
noncomputable abbrev Ue := tr [(5,8),(10,11)] false [] 0 Proofs.Tryd.f42
noncomputable def Jm := Bj Ue
theorem Zk : Ue = some Jm := Af (by kernel_rfl)
noncomputable abbrev Vo := tr [(4,6),(8,12)] false [] 0 Proofs.Tryd.f43
noncomputable def J9 := Bj Vo
theorem dY : Vo = some J9 := Af (by kernel_rfl)
noncomputable abbrev Uo := tr [(4,4),(6,7)] false [] 0 Proofs.Tryd.f44
noncomputable def Ja := Bj Uo
theorem aO : Uo = some Ja := Af (by kernel_rfl)
noncomputable abbrev WM := tr [(11,44),(46,46)] false [] 0 Proofs.Tryd.f45
noncomputable def LH := Bj WM
theorem gy : WM = some LH := Af (by kernel_rfl)
noncomputable abbrev Qw := tr [(6,12),(17,34),(36,38),(40,44),(54,62)] false [(2,opp [0,1,4,2,3,5]),(11,opp [0,1,2,4,3,5,6,7,8,9])] 0 Proofs.Tryd.f46
noncomputable def Ib := Bj Qw
theorem YP : Qw = some Ib := Af (by kernel_rfl)
noncomputable abbrev Um := tr [(4,8),(10,21)] false [] 0 Proofs.Tryd.f47
noncomputable def Ji := Bj Um
theorem Z7 : Um = some Ji := Af (by kernel_rfl)
noncomputable abbrev Oz := tr [(3,3),(5,14)] false [] 0 Proofs.Tryd.f48
noncomputable def FZ := Bj Oz
theorem Vy : Oz = some FZ := Af (by kernel_rfl)
noncomputable abbrev L8 := tr [(4,14)] false [] 0 Proofs.Tryd.f49
noncomputable def EN := Bj L8
theorem Ti : L8 = some EN := Af (by kernel_rfl)
noncomputable abbrev J3 := tr [(17,19),(21,41),(94,98),(100,109),(136,138),(140,144),(158,160),(162,166)] false [(7,Zg 15),(8,Zg 15),(9,Zg 15),(10,Zg 15),(17,Zg 15),(18,Zg 15),(23,Zg 15)] 0 Proofs.Tryd.f50
noncomputable def Dl := Bj J3
theorem QB : J3 = some Dl := Af (by kernel_rfl)
noncomputable abbrev Kw := tr [(19,27),(29,29),(31,33),(35,45),(47,67),(69,88),(90,93),(95,101)] false [] 0 Proofs.Tryd.f51
noncomputable def D8 := Bj Kw
theorem RU : Kw = some D8 := Af (by kernel_rfl)
noncomputable abbrev YC := tr [(7,15),(26,43)] false [(3,Zg 10)] 0 Proofs.Tryd.f58
noncomputable def NC := Bj YC
theorem jC : YC = some NC := Af (by kernel_rfl)
noncomputable abbrev Uk := tr [(5,7)] false [] 0 Proofs.Tryd.f59
noncomputable def JU := Bj Uk
theorem bJ : Uk = some JU := Af (by kernel_rfl)
noncomputable abbrev Ux := tr [(5,7)] false [] 0 Proofs.Tryd.f60
noncomputable def JL := Bj Ux
theorem bY : Ux = some JL := Af (by kernel_rfl)
noncomputable abbrev oq := tr [(3,8)] false [] 0 Proofs.Tryd.f61
noncomputable def U2 := Bj oq
theorem yR : oq = some U2 := Af (by kernel_rfl)
noncomputable abbrev ZN := tr [(33,34)] false [(2,Zg 27),(4,Zg 16)] 0 Proofs.Tryd.f62
noncomputable def OE := Bj ZN
theorem l7 : ZN = some OE := Af (by kernel_rfl)
noncomputable abbrev oL := tr [(3,16)] false [] 0 Proofs.Tryd.f63
noncomputable def VD := Bj oL
theorem zX : oL = some VD := Af (by kernel_rfl)
noncomputable abbrev oC := tr [(3,8)] false [] 0 Proofs.Tryd.f64
noncomputable def VA := Bj oC
theorem zA : oC = some VA := Af (by kernel_rfl)
noncomputable abbrev oO := tr [(5,25)] false [] 0 Proofs.Tryd.f65
noncomputable def U3 := Bj oO
theorem yQ : oO = some U3 := Af (by kernel_rfl)
noncomputable abbrev pq := tr [(3,8)] false [] 0 Proofs.Tryd.f66
noncomputable def U8 := Bj pq
theorem yM : pq = some U8 := Af (by kernel_rfl)
noncomputable abbrev jl := tr [(7,7),(12,20),(22,23)] false [] 0 Proofs.Tryd.f67
noncomputable def Rz := Bj jl
theorem vg : jl = some Rz := Af (by kernel_rfl)
noncomputable abbrev Ur := tr [(4,11),(13,21)] false [] 0 Proofs.Tryd.f68
noncomputable def JV := Bj Ur
theorem Zu : Ur = some JV := Af (by kernel_rfl)
noncomputable abbrev Uu := tr [(4,6),(8,13)] false [] 0 Proofs.Tryd.f69
noncomputable def Jd := Bj Uu
theorem bV : Uu = some Jd := Af (by kernel_rfl)
noncomputable abbrev Tq := tr [(4,14),(16,21)] true [] 95 Proofs.Tryd.f70
noncomputable def JA := Bj Tq
theorem ZU : Tq = some JA := Af (by kernel_rfl)
noncomputable abbrev Lh := tr [(3,5)] false [] 0 Proofs.Tryd.f71
noncomputable def EM := Bj Lh
theorem Tj : Lh = some EM := Af (by kernel_rfl)
noncomputable abbrev WR := tr [(3,3),(5,7),(9,13),(15,24)] false [] 0 Proofs.Tryd.f72
noncomputable def LQ := Bj WR
theorem ig : WR = some LQ := Af (by kernel_rfl)
noncomputable abbrev MF := tr [] false [] 0 Proofs.Tryd.f73
noncomputable def EP := Bj MF
theorem TP : MF = some EP := Af (by kernel_rfl)
noncomputable abbrev J5 := tr [(3,7)] false [] 0 Proofs.Tryd.f74
noncomputable def Dn := Bj J5
theorem QM : J5 = some Dn := Af (by kernel_rfl)
noncomputable abbrev OT := tr [(3,7)] false [] 0 Proofs.Tryd.f75
noncomputable def FD := Bj OT
theorem Vg : OT = some FD := Af (by kernel_rfl)
noncomputable abbrev JX := tr [(5,17)] false [] 0 Proofs.Tryd.f81
noncomputable def Dj := Bj JX
theorem Pq : JX = some Dj := Af (by kernel_rfl)
noncomputable abbrev JQ := tr [(5,7)] false [] 0 Proofs.Tryd.f82
noncomputable def Di := Bj JQ
theorem Pz : JQ = some Di := Af (by kernel_rfl)
noncomputable abbrev wz := tr [(1,1)] false [] 0 Proofs.Tryd.f83
noncomputable def Yp := Bj wz
theorem ACa : wz = some Yp := Af (by kernel_rfl)
noncomputable abbrev sV := tr [(1,1)] false [] 0 Proofs.Tryd.f84
noncomputable def Wj := Bj sV
theorem ABR : sV = some Wj := Af (by kernel_rfl)
noncomputable abbrev ABK := tr [(3,4)] false [] 0 Proofs.Tryd.f85
noncomputable def dB := Bj ABK
theorem AEg : ABK = some dB := Af (by kernel_rfl)
noncomputable abbrev Ui := tr [(3,13),(15,17)] false [] 0 Proofs.Tryd.f86
noncomputable def Jc := Bj Ui
theorem Zy : Ui = some Jc := Af (by kernel_rfl)
noncomputable abbrev Uj := tr [(4,13),(15,30),(32,36),(38,48),(50,56),(58,68)] false [] 0 Proofs.Tryd.f87
noncomputable def Jg := Bj Uj
theorem aV : Uj = some Jg := Af (by kernel_rfl)
noncomputable abbrev NP := tr [(3,3),(5,13)] false [] 0 Proofs.Tryd.f88
noncomputable def Ee := Bj NP
theorem UK : NP = some Ee := Af (by kernel_rfl)
noncomputable abbrev Mc := tr [(3,3),(5,13)] false [] 0 Proofs.Tryd.f89
noncomputable def Ed := Bj Mc
theorem UH : Mc = some Ed := Af (by kernel_rfl)
noncomputable abbrev RH := tr [(1,7)] false [] 0 Proofs.Tryd.f95
noncomputable def IW := Bj RH
theorem YJ : RH = some IW := Af (by kernel_rfl)
noncomputable abbrev Uz := tr [(3,7)] true [] 95 Proofs.Tryd.f96
noncomputable def JK := Bj Uz
theorem aS : Uz = some JK := Af (by kernel_rfl)
noncomputable abbrev Q9 := tr [(4,24),(26,27),(29,36)] true [] 95 Proofs.Tryd.f97
noncomputable def IQ := Bj Q9
theorem YV : Q9 = some IQ := Af (by kernel_rfl)
noncomputable abbrev SS := tr [(5,6),(15,17),(19,25),(27,40),(42,46)] false [(1,Zg 10),(8,Zg 16)] 0 Proofs.Tryd.f98
noncomputable def Ir := Bj SS
theorem ZT : SS = some Ir := Af (by kernel_rfl)
noncomputable abbrev Qv := tr [(11,15),(17,19),(27,27)] false [(4,Zg 8)] 0 Proofs.Tryd.f103
noncomputable def IU := Bj Qv
theorem YM : Qv = some IU := Af (by kernel_rfl)
noncomputable abbrev Qq := tr [(2,5)] false [] 0 Proofs.Tryd.f104
noncomputable def IV := Bj Qq
theorem Yu : Qq = some IV := Af (by kernel_rfl)
noncomputable abbrev Ph := tr [(6,10),(12,13),(23,23)] false [(5,Zg 10)] 0 Proofs.Tryd.f105
noncomputable def GI := Bj Ph
theorem Ws : Ph = some GI := Af (by kernel_rfl)
noncomputable abbrev OW := tr [(2,5)] false [] 0 Proofs.Tryd.f106
noncomputable def E5 := Bj OW
theorem VO : OW = some E5 := Af (by kernel_rfl)
noncomputable abbrev TR := tr [(9,12),(14,15),(25,25)] false [(4,Zg 10)] 0 Proofs.Tryd.f107
noncomputable def Iu := Bj TR
theorem Zb : TR = some Iu := Af (by kernel_rfl)
noncomputable abbrev NG := tr [(2,6)] false [] 0 Proofs.Tryd.f108
noncomputable def Ef := Bj NG
theorem UD : NG = some Ef := Af (by kernel_rfl)
noncomputable abbrev SN := tr [(9,15),(20,25),(27,30),(42,46),(48,51),(62,62)] true [(8,Zg 15),(16,opp [0,1,2,3,6,7,4,5,8,9])] 95 Proofs.Tryd.f109
noncomputable def I5 := Bj SN
theorem ZW : SN = some I5 := Af (by kernel_rfl)
noncomputable abbrev SG := tr [(5,14),(16,17),(24,26),(28,33)] false [(5,Zg 7)] 0 Proofs.Tryd.f110
noncomputable def I9 := Bj SG
theorem Za : SG = some I9 := Af (by kernel_rfl)
noncomputable abbrev Un := tr [(5,15),(17,20),(22,26),(32,36),(42,59),(61,63),(65,67),(69,71),(73,75),(77,83),(85,95),(97,98),(100,107)] false [(8,Zg 6),(11,Zg 6)] 0 Proofs.Tryd.f111
noncomputable def Jl := Bj Un
theorem Zl : Un = some Jl := Af (by kernel_rfl)
noncomputable abbrev RP := tr [(8,8),(10,18),(20,24)] false [(6,Zg 9)] 0 Proofs.Tryd.f112
noncomputable def Ic := Bj RP
theorem YX : RP = some Ic := Af (by kernel_rfl)
noncomputable abbrev Ug := tr [(4,12),(14,15),(17,29)] false [] 0 Proofs.Tryd.f113
noncomputable def JM := Bj Ug
theorem aN : Ug = some JM := Af (by kernel_rfl)
noncomputable abbrev X9 := tr [(3,22)] false [] 0 Proofs.Tryd.f114
noncomputable def NT := Bj X9
theorem kH : X9 = some NT := Af (by kernel_rfl)
noncomputable def F : T AF := (.n none (.n none (.n none (.n none (.n (some OJ) (.n none (.n (some VD) .e .e) (.n (some IW) .e .e)) (.n (some Ji) .e (.n (some Jl) .e .e))) (.n none (.n (some NH) (.n (some EM) .e .e) (.n (some IU) .e .e)) (.n none (.n (some Jg) .e .e) .e))) (.n none (.n (some OG) (.n none (.n (some Rz) .e .e) .e) (.n (some D8) (.n (some Yp) .e .e) .e)) (.n (some GH) (.n (some J9) (.n (some FD) .e .e) (.n (some Iu) .e .e)) (.n (some JU) .e .e)))) (.n none (.n (some NI) (.n none (.n none (.n (some U3) .e .e) (.n (some IQ) .e .e)) (.n (some EN) (.n (some Dj) .e .e) (.n (some JM) .e .e))) (.n (some I8) (.n (some JI) (.n (some EP) .e .e) (.n (some GI) .e .e)) (.n none (.n (some Ed) .e .e) .e))) (.n (some O8) (.n none (.n none (.n (some Jd) .e .e) .e) (.n none (.n (some dB) .e .e) .e)) (.n (some EO) (.n (some LH) .e (.n (some I5) .e .e)) (.n (some U2) .e .e))))) (.n none (.n none (.n none (.n (some OC) (.n none (.n (some VA) .e .e) (.n (some JK) .e .e)) (.n (some FZ) .e (.n (some Ic) .e .e))) (.n (some YL) (.n (some JZ) (.n (some LQ) .e .e) (.n (some IV) .e .e)) (.n none (.n (some Ee) .e .e) .e))) (.n none (.n none (.n none (.n (some JV) .e .e) .e) (.n none (.n (some Wj) .e .e) .e)) (.n (some LU) (.n (some Ja) .e (.n (some Ef) .e .e)) (.n (some JL) .e .e)))) (.n (some Gx) (.n (some QW) (.n none (.n none (.n (some U8) .e .e) (.n (some Ir) .e .e)) (.n (some Dl) (.n (some Di) .e .e) (.n (some NT) .e .e))) (.n (some LX) (.n (some Jm) (.n (some Dn) .e .e) (.n (some E5) .e .e)) (.n (some NC) .e .e))) (.n (some OL) (.n none (.n (some Md) (.n (some JA) .e .e) .e) (.n none (.n (some Jc) .e .e) .e)) (.n none (.n (some Ib) .e (.n (some I9) .e .e)) (.n (some OE) .e .e))))))
theorem KP : T.get F 6 = some Gx := by kernel_rfl
theorem QD : T.get F 9 = some NI := by kernel_rfl
theorem Vu : T.get F 10 = some QW := by kernel_rfl
theorem UW : T.get F 13 = some O8 := by kernel_rfl
theorem RZ : T.get F 14 = some OL := by kernel_rfl
theorem Ri : T.get F 15 = some OJ := by kernel_rfl
theorem Rj : T.get F 16 = some OC := by kernel_rfl
theorem KH : T.get F 19 = some OG := by kernel_rfl
theorem fP : T.get F 24 = some YL := by kernel_rfl
theorem MW : T.get F 25 = some I8 := by kernel_rfl
theorem PK : T.get F 26 = some LX := by kernel_rfl
theorem Jv : T.get F 27 = some GH := by kernel_rfl
theorem PO : T.get F 28 = some LU := by kernel_rfl
theorem Gt : T.get F 29 = some EO := by kernel_rfl
theorem QK : T.get F 38 = some Md := by kernel_rfl
theorem QF : T.get F 39 = some NH := by kernel_rfl
theorem Nk : T.get F 40 = some JZ := by kernel_rfl
theorem OA : T.get F 41 = some JI := by kernel_rfl
theorem Nb : T.get F 42 = some Jm := by kernel_rfl
theorem Oi : T.get F 43 = some J9 := by kernel_rfl
theorem N8 : T.get F 44 = some Ja := by kernel_rfl
theorem PG : T.get F 45 = some LH := by kernel_rfl
theorem Lc : T.get F 46 = some Ib := by kernel_rfl
theorem N9 : T.get F 47 = some Ji := by kernel_rfl
theorem JG : T.get F 48 = some FZ := by kernel_rfl
theorem Gf : T.get F 49 = some EN := by kernel_rfl
theorem FK : T.get F 50 = some Dl := by kernel_rfl
theorem RV : T.get F 51 = some D8 := by kernel_rfl
theorem QZ : T.get F 58 = some NC := by kernel_rfl
theorem Nj : T.get F 59 = some JU := by kernel_rfl
theorem Nw : T.get F 60 = some JL := by kernel_rfl
theorem YT : T.get F 61 = some U2 := by kernel_rfl
theorem Rw : T.get F 62 = some OE := by kernel_rfl
theorem Yw : T.get F 63 = some VD := by kernel_rfl
theorem Yi : T.get F 64 = some VA := by kernel_rfl
theorem YZ : T.get F 65 = some U3 := by kernel_rfl
theorem YI : T.get F 66 = some U8 := by kernel_rfl
theorem XG : T.get F 67 = some Rz := by kernel_rfl
theorem Nz : T.get F 68 = some JV := by kernel_rfl
theorem Nu : T.get F 69 = some Jd := by kernel_rfl
theorem MV : T.get F 70 = some JA := by kernel_rfl
theorem GX : T.get F 71 = some EM := by kernel_rfl
theorem PV : T.get F 72 = some LQ := by kernel_rfl
theorem GY : T.get F 73 = some EP := by kernel_rfl
theorem Qb : T.get F 74 = some Dn := by kernel_rfl
theorem Vq : T.get F 75 = some FD := by kernel_rfl
theorem Eo : T.get F 81 = some Dj := by kernel_rfl
theorem Ep : T.get F 82 = some Di := by kernel_rfl
theorem gV : T.get F 83 = some Yp := by kernel_rfl
theorem bH : T.get F 84 = some Wj := by kernel_rfl
theorem nH : T.get F 85 = some dB := by kernel_rfl
theorem Na : T.get F 86 = some Jc := by kernel_rfl
theorem NY : T.get F 87 = some Jg := by kernel_rfl
theorem Ub : T.get F 88 = some Ee := by kernel_rfl
theorem UG : T.get F 89 = some Ed := by kernel_rfl
theorem DT : T.get F 95 = some IW := by kernel_rfl
theorem Nr : T.get F 96 = some JK := by kernel_rfl
theorem LD : T.get F 97 = some IQ := by kernel_rfl
theorem MP : T.get F 98 = some Ir := by kernel_rfl
theorem LM : T.get F 103 = some IU := by kernel_rfl
theorem LP : T.get F 104 = some IV := by kernel_rfl
theorem Ju : T.get F 105 = some GI := by kernel_rfl
theorem Ii : T.get F 106 = some E5 := by kernel_rfl
theorem MR : T.get F 107 = some Iu := by kernel_rfl
theorem Gz : T.get F 108 = some Ef := by kernel_rfl
theorem MO : T.get F 109 = some I5 := by kernel_rfl
theorem MX : T.get F 110 = some I9 := by kernel_rfl
theorem Nv : T.get F 111 = some Jl := by kernel_rfl
theorem LY : T.get F 112 = some Ic := by kernel_rfl
theorem Nq : T.get F 113 = some JM := by kernel_rfl
theorem QA : T.get F 114 = some NT := by kernel_rfl
end Go.PQ
namespace Go.PQ
open Go.Eng
set_option maxRecDepth 100000
abbrev Fg (n : Nat) (a : AF) : Prop := iG Go.Proofs.Tryd.prog F n a
theorem Vz : Fg 6 Gx := .one Proofs.Tryd.func6 (by kernel_rfl) Xm (by kernel_rfl) (by kernel_rfl)
theorem eH : Fg 9 NI := .one Proofs.Tryd.func9 (by kernel_rfl) jX (by kernel_rfl) (by kernel_rfl)
theorem nI : Fg 10 QW := .one Proofs.Tryd.func10 (by kernel_rfl) uY (by kernel_rfl) (by kernel_rfl)
theorem jy : Fg 13 O8 := .one Proofs.Tryd.func13 (by kernel_rfl) qI (by kernel_rfl) (by kernel_rfl)
theorem iR : Fg 14 OL := .one Proofs.Tryd.func14 (by kernel_rfl) mG (by kernel_rfl) (by kernel_rfl)
theorem iH : Fg 15 OJ := .one Proofs.Tryd.func15 (by kernel_rfl) mV (by kernel_rfl) (by kernel_rfl)
theorem fM : Fg 16 OC := .one Proofs.Tryd.func16 (by kernel_rfl) lW (by kernel_rfl) (by kernel_rfl)
theorem iW : Fg 19 OG := .one Proofs.Tryd.func19 (by kernel_rfl) lX (by kernel_rfl) (by kernel_rfl)
theorem AAH : Fg 24 YL := .one Proofs.Tryd.func24 (by kernel_rfl) ACj (by kernel_rfl) (by kernel_rfl)
theorem Xj : Fg 25 I8 := .one Proofs.Tryd.func25 (by kernel_rfl) ZR (by kernel_rfl) (by kernel_rfl)
theorem Zh : Fg 26 LX := .one Proofs.Tryd.func26 (by kernel_rfl) gZ (by kernel_rfl) (by kernel_rfl)
theorem Vt : Fg 27 GH := .one Proofs.Tryd.func27 (by kernel_rfl) W9 (by kernel_rfl) (by kernel_rfl)
theorem bn : Fg 28 LU := .one Proofs.Tryd.func28 (by kernel_rfl) iF (by kernel_rfl) (by kernel_rfl)
theorem Ql : Fg 29 EO := .one Proofs.Tryd.func29 (by kernel_rfl) TB (by kernel_rfl) (by kernel_rfl)
theorem eF : Fg 38 Md := .one Proofs.Tryd.func38 (by kernel_rfl) jJ (by kernel_rfl) (by kernel_rfl)
theorem dZ : Fg 39 NH := .one Proofs.Tryd.func39 (by kernel_rfl) je (by kernel_rfl) (by kernel_rfl)
theorem Yj : Fg 40 JZ := .one Proofs.Tryd.func40 (by kernel_rfl) aJ (by kernel_rfl) (by kernel_rfl)
theorem Y3 : Fg 41 JI := .one Proofs.Tryd.func41 (by kernel_rfl) Zr (by kernel_rfl) (by kernel_rfl)
theorem Ym : Fg 42 Jm := .one Proofs.Tryd.func42 (by kernel_rfl) Zk (by kernel_rfl) (by kernel_rfl)
theorem ZX : Fg 43 J9 := .one Proofs.Tryd.func43 (by kernel_rfl) dY (by kernel_rfl) (by kernel_rfl)
theorem Yn : Fg 44 Ja := .one Proofs.Tryd.func44 (by kernel_rfl) aO (by kernel_rfl) (by kernel_rfl)
theorem Zx : Fg 45 LH := .one Proofs.Tryd.func45 (by kernel_rfl) gy (by kernel_rfl) (by kernel_rfl)
theorem XJ : Fg 46 Ib := .one Proofs.Tryd.func46 (by kernel_rfl) YP (by kernel_rfl) (by kernel_rfl)
theorem Yb : Fg 47 Ji := .one Proofs.Tryd.func47 (by kernel_rfl) Z7 (by kernel_rfl) (by kernel_rfl)
theorem U9 : Fg 48 FZ := .one Proofs.Tryd.func48 (by kernel_rfl) Vy (by kernel_rfl) (by kernel_rfl)
theorem Qn : Fg 49 EN := .one Proofs.Tryd.func49 (by kernel_rfl) Ti (by kernel_rfl) (by kernel_rfl)
theorem PL : Fg 50 Dl := .one Proofs.Tryd.func50 (by kernel_rfl) QB (by kernel_rfl) (by kernel_rfl)
theorem QH : Fg 51 D8 := .one Proofs.Tryd.func51 (by kernel_rfl) RU (by kernel_rfl) (by kernel_rfl)
theorem dw : Fg 58 NC := .one Proofs.Tryd.func58 (by kernel_rfl) jC (by kernel_rfl) (by kernel_rfl)
theorem Y7 : Fg 59 JU := .one Proofs.Tryd.func59 (by kernel_rfl) bJ (by kernel_rfl) (by kernel_rfl)
theorem YG : Fg 60 JL := .one Proofs.Tryd.func60 (by kernel_rfl) bY (by kernel_rfl) (by kernel_rfl)
theorem uq : Fg 61 U2 := .one Proofs.Tryd.func61 (by kernel_rfl) yR (by kernel_rfl) (by kernel_rfl)
theorem iO : Fg 62 OE := .one Proofs.Tryd.func62 (by kernel_rfl) l7 (by kernel_rfl) (by kernel_rfl)
theorem tZ : Fg 63 VD := .one Proofs.Tryd.func63 (by kernel_rfl) zX (by kernel_rfl) (by kernel_rfl)
theorem tN : Fg 64 VA := .one Proofs.Tryd.func64 (by kernel_rfl) zA (by kernel_rfl) (by kernel_rfl)
theorem tq : Fg 65 U3 := .one Proofs.Tryd.func65 (by kernel_rfl) yQ (by kernel_rfl) (by kernel_rfl)
theorem vH : Fg 66 U8 := .one Proofs.Tryd.func66 (by kernel_rfl) yM (by kernel_rfl) (by kernel_rfl)
theorem qA : Fg 67 Rz := .one Proofs.Tryd.func67 (by kernel_rfl) vg (by kernel_rfl) (by kernel_rfl)
theorem Y4 : Fg 68 JV := .one Proofs.Tryd.func68 (by kernel_rfl) Zu (by kernel_rfl) (by kernel_rfl)
theorem Yc : Fg 69 Jd := .one Proofs.Tryd.func69 (by kernel_rfl) bV (by kernel_rfl) (by kernel_rfl)
theorem Xo : Fg 70 JA := .two Proofs.Tryd.func70 (by kernel_rfl) ZU (by kernel_rfl) DT (by kernel_rfl)
theorem Qj : Fg 71 EM := .one Proofs.Tryd.func71 (by kernel_rfl) Tj (by kernel_rfl) (by kernel_rfl)
theorem Zt : Fg 72 LQ := .one Proofs.Tryd.func72 (by kernel_rfl) ig (by kernel_rfl) (by kernel_rfl)
theorem Qi : Fg 73 EP := .one Proofs.Tryd.func73 (by kernel_rfl) TP (by kernel_rfl) (by kernel_rfl)
theorem PN : Fg 74 Dn := .one Proofs.Tryd.func74 (by kernel_rfl) QM (by kernel_rfl) (by kernel_rfl)
theorem UU : Fg 75 FD := .one Proofs.Tryd.func75 (by kernel_rfl) Vg (by kernel_rfl) (by kernel_rfl)
theorem O1 : Fg 81 Dj := .one Proofs.Tryd.func81 (by kernel_rfl) Pq (by kernel_rfl) (by kernel_rfl)
theorem Oq : Fg 82 Di := .one Proofs.Tryd.func82 (by kernel_rfl) Pz (by kernel_rfl) (by kernel_rfl)
theorem yL : Fg 83 Yp := .one Proofs.Tryd.func83 (by kernel_rfl) ACa (by kernel_rfl) (by kernel_rfl)
theorem vS : Fg 84 Wj := .one Proofs.Tryd.func84 (by kernel_rfl) ABR (by kernel_rfl) (by kernel_rfl)
theorem AAv : Fg 85 dB := .one Proofs.Tryd.func85 (by kernel_rfl) AEg (by kernel_rfl) (by kernel_rfl)
theorem Yy : Fg 86 Jc := .one Proofs.Tryd.func86 (by kernel_rfl) Zy (by kernel_rfl) (by kernel_rfl)
theorem YO : Fg 87 Jg := .one Proofs.Tryd.func87 (by kernel_rfl) aV (by kernel_rfl) (by kernel_rfl)
theorem Rh : Fg 88 Ee := .one Proofs.Tryd.func88 (by kernel_rfl) UK (by kernel_rfl) (by kernel_rfl)
theorem Rq : Fg 89 Ed := .one Proofs.Tryd.func89 (by kernel_rfl) UH (by kernel_rfl) (by kernel_rfl)
theorem XO : Fg 95 IW := .one Proofs.Tryd.func95 (by kernel_rfl) YJ (by kernel_rfl) (by kernel_rfl)
theorem Yh : Fg 96 JK := .two Proofs.Tryd.func96 (by kernel_rfl) aS (by kernel_rfl) DT (by kernel_rfl)
theorem XR : Fg 97 IQ := .two Proofs.Tryd.func97 (by kernel_rfl) YV (by kernel_rfl) DT (by kernel_rfl)
theorem X0 : Fg 98 Ir := .one Proofs.Tryd.func98 (by kernel_rfl) ZT (by kernel_rfl) (by kernel_rfl)
theorem XB : Fg 103 IU := .one Proofs.Tryd.func103 (by kernel_rfl) YM (by kernel_rfl) (by kernel_rfl)
theorem XQ : Fg 104 IV := .one Proofs.Tryd.func104 (by kernel_rfl) Yu (by kernel_rfl) (by kernel_rfl)
theorem VZ : Fg 105 GI := .one Proofs.Tryd.func105 (by kernel_rfl) Ws (by kernel_rfl) (by kernel_rfl)
theorem UE : Fg 106 E5 := .one Proofs.Tryd.func106 (by kernel_rfl) VO (by kernel_rfl) (by kernel_rfl)
theorem Xk : Fg 107 Iu := .one Proofs.Tryd.func107 (by kernel_rfl) Zb (by kernel_rfl) (by kernel_rfl)
theorem Rk : Fg 108 Ef := .one Proofs.Tryd.func108 (by kernel_rfl) UD (by kernel_rfl) (by kernel_rfl)
theorem Xx : Fg 109 I5 := .two Proofs.Tryd.func109 (by kernel_rfl) ZW (by kernel_rfl) DT (by kernel_rfl)
theorem Xv : Fg 110 I9 := .one Proofs.Tryd.func110 (by kernel_rfl) Za (by kernel_rfl) (by kernel_rfl)
theorem Yx : Fg 111 Jl := .one Proofs.Tryd.func111 (by kernel_rfl) Zl (by kernel_rfl) (by kernel_rfl)
theorem XW : Fg 112 Ic := .one Proofs.Tryd.func112 (by kernel_rfl) YX (by kernel_rfl) (by kernel_rfl)
theorem Y2 : Fg 113 JM := .one Proofs.Tryd.func113 (by kernel_rfl) aN (by kernel_rfl) (by kernel_rfl)
theorem eP : Fg 114 NT := .one Proofs.Tryd.func114 (by kernel_rfl) kH (by kernel_rfl) (by kernel_rfl)
theorem all_good : T.All (fun p af => iG Go.Proofs.Tryd.prog F p.key af) F := (.n0 (.n0 (.n0 (.n0 (.n1 iH (.n0 (.n1 tZ .e .e) (.n1 XO .e .e)) (.n1 Yb .e (.n1 Yx .e .e))) (.n0 (.n1 dZ (.n1 Qj .e .e) (.n1 XB .e .e)) (.n0 (.n1 YO .e .e) .e))) (.n0 (.n1 iW (.n0 (.n1 qA .e .e) .e) (.n1 QH (.n1 yL .e .e) .e)) (.n1 Vt (.n1 ZX (.n1 UU .e .e) (.n1 Xk .e .e)) (.n1 Y7 .e .e)))) (.n0 (.n1 eH (.n0 (.n0 (.n1 tq .e .e) (.n1 XR .e .e)) (.n1 Qn (.n1 O1 .e .e) (.n1 Y2 .e .e))) (.n1 Xj (.n1 Y3 (.n1 Qi .e .e) (.n1 VZ .e .e)) (.n0 (.n1 Rq .e .e) .e))) (.n1 jy (.n0 (.n0 (.n1 Yc .e .e) .e) (.n0 (.n1 AAv .e .e) .e)) (.n1 Ql (.n1 Zx .e (.n1 Xx .e .e)) (.n1 uq .e .e))))) (.n0 (.n0 (.n0 (.n1 fM (.n0 (.n1 tN .e .e) (.n1 Yh .e .e)) (.n1 U9 .e (.n1 XW .e .e))) (.n1 AAH (.n1 Yj (.n1 Zt .e .e) (.n1 XQ .e .e)) (.n0 (.n1 Rh .e .e) .e))) (.n0 (.n0 (.n0 (.n1 Y4 .e .e) .e) (.n0 (.n1 vS .e .e) .e)) (.n1 bn (.n1 Yn .e (.n1 Rk .e .e)) (.n1 YG .e .e)))) (.n1 Vz (.n1 nI (.n0 (.n0 (.n1 vH .e .e) (.n1 X0 .e .e)) (.n1 PL (.n1 Oq .e .e) (.n1 eP .e .e))) (.n1 Zh (.n1 Ym (.n1 PN .e .e) (.n1 UE .e .e)) (.n1 dw .e .e))) (.n1 iR (.n0 (.n1 eF (.n1 Xo .e .e) .e) (.n0 (.n1 Yy .e .e) .e)) (.n0 (.n1 XJ .e (.n1 Xv .e .e)) (.n1 iO .e .e))))))
theorem ALF : rX Go.Proofs.Tryd.prog F := .ALQ (by kernel_rfl) all_good
end Go.PQ
