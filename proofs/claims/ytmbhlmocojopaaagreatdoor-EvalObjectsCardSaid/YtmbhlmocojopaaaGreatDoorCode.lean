/- Part of a proof: texts RBNm RBTr RBOk RBG of the engine and what is proved with it; nothing is assumed. -/
import Derived.Test.YtmbhlmocojopaaaGreatDoorEngA
import Derived.Test.YtmbhlmocojopaaaGreatDoorEngF
import Derived.Test.YtmbhlmocojopaaaGreatDoorProg
import Derived.Test.YtmbhlmocojopaaaGreatDoorEngE
set_option linter.unusedVariables false
set_option linter.unusedSimpArgs false
/- Registers. -/
namespace Go.R3
open Go.Eng
def q0 : P2 := .h
def q1 : P2 := .z q0
def q2 : P2 := .o q0
def q3 : P2 := .z q1
def q4 : P2 := .o q1
def q5 : P2 := .z q2
def q6 : P2 := .o q2
def q7 : P2 := .z q3
def q8 : P2 := .o q3
def q9 : P2 := .z q4
def q10 : P2 := .o q4
def q11 : P2 := .z q5
def q12 : P2 := .o q5
def q13 : P2 := .z q6
def q14 : P2 := .o q6
def q15 : P2 := .z q7
def q16 : P2 := .o q7
def q17 : P2 := .z q8
def q18 : P2 := .o q8
def q19 : P2 := .z q9
def q20 : P2 := .o q9
def q21 : P2 := .z q10
def q22 : P2 := .o q10
def q23 : P2 := .z q11
def q24 : P2 := .o q11
def q25 : P2 := .z q12
def q26 : P2 := .o q12
def q27 : P2 := .z q13
def q28 : P2 := .o q13
def q29 : P2 := .z q14
def q30 : P2 := .o q14
def q31 : P2 := .z q15
def q32 : P2 := .o q15
def q33 : P2 := .z q16
def q34 : P2 := .o q16
def q35 : P2 := .z q17
def q36 : P2 := .o q17
def q37 : P2 := .z q18
def q38 : P2 := .o q18
def q39 : P2 := .z q19
def q40 : P2 := .o q19
def q41 : P2 := .z q20
def q42 : P2 := .o q20
def q43 : P2 := .z q21
def q44 : P2 := .o q21
def q45 : P2 := .z q22
def q46 : P2 := .o q22
def q47 : P2 := .z q23
def q48 : P2 := .o q23
def q49 : P2 := .z q24
def q50 : P2 := .o q24
def q51 : P2 := .z q25
def q52 : P2 := .o q25
def q53 : P2 := .z q26
def q54 : P2 := .o q26
def q55 : P2 := .z q27
def q56 : P2 := .o q27
def q57 : P2 := .z q28
def q58 : P2 := .o q28
def q59 : P2 := .z q29
def q60 : P2 := .o q29
def q61 : P2 := .z q30
def q62 : P2 := .o q30
def q63 : P2 := .z q31
def q64 : P2 := .o q31
def q65 : P2 := .z q32
def q66 : P2 := .o q32
def q67 : P2 := .z q33
def q68 : P2 := .o q33
def q69 : P2 := .z q34
def q70 : P2 := .o q34
def q71 : P2 := .z q35
def q72 : P2 := .o q35
def q73 : P2 := .z q36
def q74 : P2 := .o q36
def q75 : P2 := .z q37
def q76 : P2 := .o q37
def q77 : P2 := .z q38
def q78 : P2 := .o q38
def q79 : P2 := .z q39
def q80 : P2 := .o q39
def q81 : P2 := .z q40
def q82 : P2 := .o q40
def q83 : P2 := .z q41
def q84 : P2 := .o q41
def q85 : P2 := .z q42
def q86 : P2 := .o q42
def q87 : P2 := .z q43
def q88 : P2 := .o q43
def q89 : P2 := .z q44
def q90 : P2 := .o q44
def q91 : P2 := .z q45
def q92 : P2 := .o q45
def q93 : P2 := .z q46
def q94 : P2 := .o q46
def q95 : P2 := .z q47
def q96 : P2 := .o q47
def q97 : P2 := .z q48
def q98 : P2 := .o q48
def q99 : P2 := .z q49
def q100 : P2 := .o q49
def q101 : P2 := .z q50
def q102 : P2 := .o q50
def q103 : P2 := .z q51
def q104 : P2 := .o q51
def q105 : P2 := .z q52
def q106 : P2 := .o q52
def q107 : P2 := .z q53
def q108 : P2 := .o q53
def q109 : P2 := .z q54
def q110 : P2 := .o q54
def q111 : P2 := .z q55
def q112 : P2 := .o q55
def q113 : P2 := .z q56
def q114 : P2 := .o q56
def q115 : P2 := .z q57
def q116 : P2 := .o q57
def q117 : P2 := .z q58
def q118 : P2 := .o q58
def q119 : P2 := .z q59
def q120 : P2 := .o q59
def q121 : P2 := .z q60
def q122 : P2 := .o q60
def q123 : P2 := .z q61
def q124 : P2 := .o q61
def q125 : P2 := .z q62
def q126 : P2 := .o q62
def q127 : P2 := .z q63
def q128 : P2 := .o q63
def q129 : P2 := .z q64
def q130 : P2 := .o q64
def q131 : P2 := .z q65
def q132 : P2 := .o q65
def q133 : P2 := .z q66
def q134 : P2 := .o q66
def q135 : P2 := .z q67
def q136 : P2 := .o q67
def q137 : P2 := .z q68
def q138 : P2 := .o q68
def q139 : P2 := .z q69
def q140 : P2 := .o q69
def q141 : P2 := .z q70
def q142 : P2 := .o q70
def q143 : P2 := .z q71
def q144 : P2 := .o q71
def q145 : P2 := .z q72
def q146 : P2 := .o q72
def q147 : P2 := .z q73
def q148 : P2 := .o q73
def q149 : P2 := .z q74
def q150 : P2 := .o q74
def q151 : P2 := .z q75
def q152 : P2 := .o q75
def q153 : P2 := .z q76
def q154 : P2 := .o q76
def q155 : P2 := .z q77
def q156 : P2 := .o q77
def q157 : P2 := .z q78
def q158 : P2 := .o q78
def q159 : P2 := .z q79
def q160 : P2 := .o q79
def q161 : P2 := .z q80
def q162 : P2 := .o q80
def q163 : P2 := .z q81
def q164 : P2 := .o q81
def q165 : P2 := .z q82
def q166 : P2 := .o q82
def q167 : P2 := .z q83
def q168 : P2 := .o q83
def q169 : P2 := .z q84
def q170 : P2 := .o q84
def q171 : P2 := .z q85
def q172 : P2 := .o q85
def q173 : P2 := .z q86
def q174 : P2 := .o q86
def q175 : P2 := .z q87
def q176 : P2 := .o q87
def q177 : P2 := .z q88
def q178 : P2 := .o q88
def q179 : P2 := .z q89
def q180 : P2 := .o q89
def q181 : P2 := .z q90
def q182 : P2 := .o q90
def q183 : P2 := .z q91
def q184 : P2 := .o q91
def q185 : P2 := .z q92
def q186 : P2 := .o q92
def q187 : P2 := .z q93
def q188 : P2 := .o q93
def q189 : P2 := .z q94
def q190 : P2 := .o q94
def q191 : P2 := .z q95
def q192 : P2 := .o q95
def q193 : P2 := .z q96
def q194 : P2 := .o q96
def q195 : P2 := .z q97
def q196 : P2 := .o q97
def q197 : P2 := .z q98
def q198 : P2 := .o q98
def q199 : P2 := .z q99
def q200 : P2 := .o q99
def q201 : P2 := .z q100
def q202 : P2 := .o q100
def q203 : P2 := .z q101
def q204 : P2 := .o q101
def q205 : P2 := .z q102
def q206 : P2 := .o q102
def q207 : P2 := .z q103
def q208 : P2 := .o q103
def q209 : P2 := .z q104
def q210 : P2 := .o q104
def q211 : P2 := .z q105
def q212 : P2 := .o q105
def q213 : P2 := .z q106
def q214 : P2 := .o q106
def q215 : P2 := .z q107
def q216 : P2 := .o q107
def q217 : P2 := .z q108
def q218 : P2 := .o q108
def q219 : P2 := .z q109
def q220 : P2 := .o q109
abbrev g_internal_bytealg_MaxLen : Nat := 0
abbrev g_kiln_op_shapes : Nat := 1
abbrev g_kiln_lex_marks : Nat := 2
end Go.R3

/- The abstract code is what the program has: the translation, run by the kernel. -/
namespace Go.R3
open Go.Eng
set_option maxRecDepth 100000
noncomputable abbrev tr (l : List (Nat × Nat)) (d : Bool) (o : Ords) (g : Nat) (f : Func) : Option AF := trF Go.Proofs.Tryz.prog (inR l) d o g f
noncomputable abbrev o_f7 := tr [(16,16),(18,31),(33,64),(66,66),(70,70),(81,81)] false [(15,opl 10)] 0 Proofs.Tryz.f7
noncomputable def af_f7 := theAF o_f7
theorem tr_f7 : o_f7 = some af_f7 := theAF_ok (by kernel_rfl)
noncomputable abbrev o_f20 := tr [(12,18),(32,36),(43,51),(56,58),(66,71),(78,79)] false [(2,opl 9),(3,opl 6),(6,opl 7),(12,opl 8),(15,opl 7)] 0 Proofs.Tryz.f20
noncomputable def af_f20 := theAF o_f20
theorem tr_f20 : o_f20 = some af_f20 := theAF_ok (by kernel_rfl)
noncomputable abbrev o_f23 := tr [(6,12),(14,46)] false [] 0 Proofs.Tryz.f23
noncomputable def af_f23 := theAF o_f23
theorem tr_f23 : o_f23 = some af_f23 := theAF_ok (by kernel_rfl)
noncomputable abbrev o_f24 := tr [(16,16),(21,29),(31,38),(43,52),(54,60)] false [] 0 Proofs.Tryz.f24
noncomputable def af_f24 := theAF o_f24
theorem tr_f24 : o_f24 = some af_f24 := theAF_ok (by kernel_rfl)
noncomputable abbrev o_f25 := tr [(17,17),(24,28),(33,34),(42,50),(52,54),(65,65),(67,73),(78,96),(98,98)] false [(5,opl 8),(10,opl 10),(23,opl 13)] 0 Proofs.Tryz.f25
noncomputable def af_f25 := theAF o_f25
theorem tr_f25 : o_f25 = some af_f25 := theAF_ok (by kernel_rfl)
noncomputable abbrev o_f30 := tr [(1,1)] false [] 0 Proofs.Tryz.f30
noncomputable def af_f30 := theAF o_f30
theorem tr_f30 : o_f30 = some af_f30 := theAF_ok (by kernel_rfl)
noncomputable abbrev o_f33 := tr [(6,6),(11,20)] false [] 0 Proofs.Tryz.f33
noncomputable def af_f33 := theAF o_f33
theorem tr_f33 : o_f33 = some af_f33 := theAF_ok (by kernel_rfl)
noncomputable abbrev o_f36 := tr [(6,9),(14,15),(23,24)] false [(5,opl 8)] 0 Proofs.Tryz.f36
noncomputable def af_f36 := theAF o_f36
theorem tr_f36 : o_f36 = some af_f36 := theAF_ok (by kernel_rfl)
noncomputable abbrev o_f37 := tr [(10,10),(13,14),(18,18),(21,31),(33,49),(51,59),(61,62),(64,66),(71,77),(79,88),(90,91),(96,105),(107,127),(129,129)] false [] 0 Proofs.Tryz.f37
noncomputable def af_f37 := theAF o_f37
theorem tr_f37 : o_f37 = some af_f37 := theAF_ok (by kernel_rfl)
noncomputable abbrev o_f40 := tr [(3,4)] false [] 0 Proofs.Tryz.f40
noncomputable def af_f40 := theAF o_f40
theorem tr_f40 : o_f40 = some af_f40 := theAF_ok (by kernel_rfl)
noncomputable abbrev o_f43 := tr [(1,1)] false [] 0 Proofs.Tryz.f43
noncomputable def af_f43 := theAF o_f43
theorem tr_f43 : o_f43 = some af_f43 := theAF_ok (by kernel_rfl)
noncomputable abbrev o_f45 := tr [(14,14),(19,20),(28,30)] false [(1,opp [0,1,2,3,4,5,8,6,7,9]),(5,opl 8)] 0 Proofs.Tryz.f45
noncomputable def af_f45 := theAF o_f45
theorem tr_f45 : o_f45 = some af_f45 := theAF_ok (by kernel_rfl)
noncomputable abbrev o_f46 := tr [(6,9),(11,11),(15,15),(25,25)] false [(6,opl 9)] 0 Proofs.Tryz.f46
noncomputable def af_f46 := theAF o_f46
theorem tr_f46 : o_f46 = some af_f46 := theAF_ok (by kernel_rfl)
noncomputable abbrev o_f51 := tr [(8,8),(10,26)] false [] 0 Proofs.Tryz.f51
noncomputable def af_f51 := theAF o_f51
theorem tr_f51 : o_f51 = some af_f51 := theAF_ok (by kernel_rfl)
noncomputable abbrev o_f52 := tr [(5,30)] false [] 0 Proofs.Tryz.f52
noncomputable def af_f52 := theAF o_f52
theorem tr_f52 : o_f52 = some af_f52 := theAF_ok (by kernel_rfl)
noncomputable abbrev o_f53 := tr [(3,3),(5,7)] false [] 0 Proofs.Tryz.f53
noncomputable def af_f53 := theAF o_f53
theorem tr_f53 : o_f53 = some af_f53 := theAF_ok (by kernel_rfl)
noncomputable abbrev o_f54 := tr [(7,15),(20,33)] false [] 0 Proofs.Tryz.f54
noncomputable def af_f54 := theAF o_f54
theorem tr_f54 : o_f54 = some af_f54 := theAF_ok (by kernel_rfl)
noncomputable abbrev o_f58 := tr [(8,14),(18,24),(31,32)] false [(3,opl 4),(7,opl 7)] 0 Proofs.Tryz.f58
noncomputable def af_f58 := theAF o_f58
theorem tr_f58 : o_f58 = some af_f58 := theAF_ok (by kernel_rfl)
noncomputable abbrev o_f59 := tr [(12,12),(16,16),(19,24),(29,48),(52,53)] false [(8,opl 5)] 0 Proofs.Tryz.f59
noncomputable def af_f59 := theAF o_f59
theorem tr_f59 : o_f59 = some af_f59 := theAF_ok (by kernel_rfl)
noncomputable abbrev o_f60 := tr [(5,8)] false [] 0 Proofs.Tryz.f60
noncomputable def af_f60 := theAF o_f60
theorem tr_f60 : o_f60 = some af_f60 := theAF_ok (by kernel_rfl)
noncomputable abbrev o_f61 := tr [] false [(1,opl 4)] 0 Proofs.Tryz.f61
noncomputable def af_f61 := theAF o_f61
theorem tr_f61 : o_f61 = some af_f61 := theAF_ok (by kernel_rfl)
noncomputable abbrev o_f62 := tr [(12,18),(29,37),(42,47),(59,67)] true [(2,opl 10),(10,opl 11)] 103 Proofs.Tryz.f62
noncomputable def af_f62 := theAF o_f62
theorem tr_f62 : o_f62 = some af_f62 := theAF_ok (by kernel_rfl)
noncomputable abbrev o_f63 := tr [(10,11),(14,31),(36,46),(48,50)] false [] 0 Proofs.Tryz.f63
noncomputable def af_f63 := theAF o_f63
theorem tr_f63 : o_f63 = some af_f63 := theAF_ok (by kernel_rfl)
noncomputable abbrev o_f67 := tr [(9,9),(11,22),(24,24),(31,31)] false [(6,[(0,.plain),(1,.plain),(2,.plain),(4,.plain),(5,.plain),(3,.plain),(6,.wr),(7,.wr)])] 0 Proofs.Tryz.f67
noncomputable def af_f67 := theAF o_f67
theorem tr_f67 : o_f67 = some af_f67 := theAF_ok (by kernel_rfl)
noncomputable abbrev o_f68 := tr [(10,10),(14,14),(17,22),(27,40),(44,45)] false [(8,opl 5)] 0 Proofs.Tryz.f68
noncomputable def af_f68 := theAF o_f68
theorem tr_f68 : o_f68 = some af_f68 := theAF_ok (by kernel_rfl)
noncomputable abbrev o_f71 := tr [(5,7)] false [] 0 Proofs.Tryz.f71
noncomputable def af_f71 := theAF o_f71
theorem tr_f71 : o_f71 = some af_f71 := theAF_ok (by kernel_rfl)
noncomputable abbrev o_f77 := tr [(5,8)] false [] 0 Proofs.Tryz.f77
noncomputable def af_f77 := theAF o_f77
theorem tr_f77 : o_f77 = some af_f77 := theAF_ok (by kernel_rfl)
noncomputable abbrev o_f78 := tr [(5,6),(10,10),(29,31),(35,35),(54,54)] false [(4,opl 18),(10,opl 18)] 0 Proofs.Tryz.f78
noncomputable def af_f78 := theAF o_f78
theorem tr_f78 : o_f78 = some af_f78 := theAF_ok (by kernel_rfl)
noncomputable abbrev o_f79 := tr [(7,7),(13,16),(18,20),(22,29),(31,31)] false [] 0 Proofs.Tryz.f79
noncomputable def af_f79 := theAF o_f79
theorem tr_f79 : o_f79 = some af_f79 := theAF_ok (by kernel_rfl)
noncomputable abbrev o_f80 := tr [(5,30)] false [] 0 Proofs.Tryz.f80
noncomputable def af_f80 := theAF o_f80
theorem tr_f80 : o_f80 = some af_f80 := theAF_ok (by kernel_rfl)
noncomputable abbrev o_f84 := tr [(3,3),(5,7)] false [] 0 Proofs.Tryz.f84
noncomputable def af_f84 := theAF o_f84
theorem tr_f84 : o_f84 = some af_f84 := theAF_ok (by kernel_rfl)
noncomputable abbrev o_f85 := tr [(6,13),(18,28)] false [] 0 Proofs.Tryz.f85
noncomputable def af_f85 := theAF o_f85
theorem tr_f85 : o_f85 = some af_f85 := theAF_ok (by kernel_rfl)
noncomputable abbrev o_f86 := tr [(2,11)] false [] 0 Proofs.Tryz.f86
noncomputable def af_f86 := theAF o_f86
theorem tr_f86 : o_f86 = some af_f86 := theAF_ok (by kernel_rfl)
noncomputable abbrev o_f91 := tr [(10,13),(19,29),(31,31)] false [] 0 Proofs.Tryz.f91
noncomputable def af_f91 := theAF o_f91
theorem tr_f91 : o_f91 = some af_f91 := theAF_ok (by kernel_rfl)
noncomputable abbrev o_f92 := tr [] false [(1,opp [0,1,2,3,4,9,5,6,7,8,10,11]),(2,opl 18),(3,opp [0,1,2,3,4,5,6,7,8,10,11,12,13,14,15,9,16,17,18,19,20,21,22,23])] 0 Proofs.Tryz.f92
noncomputable def af_f92 := theAF o_f92
theorem tr_f92 : o_f92 = some af_f92 := theAF_ok (by kernel_rfl)
noncomputable abbrev o_f93 := tr [(9,14),(19,39)] false [] 0 Proofs.Tryz.f93
noncomputable def af_f93 := theAF o_f93
theorem tr_f93 : o_f93 = some af_f93 := theAF_ok (by kernel_rfl)
noncomputable abbrev o_f97 := tr [(8,13),(20,27),(35,40),(42,43)] false [(3,opl 7),(8,opl 8)] 0 Proofs.Tryz.f97
noncomputable def af_f97 := theAF o_f97
theorem tr_f97 : o_f97 = some af_f97 := theAF_ok (by kernel_rfl)
noncomputable abbrev o_f98 := tr [(5,19),(21,32),(34,35),(37,40),(50,57),(59,61),(69,84),(86,88)] false [(11,opp [0,1,2,4,3,5,6,7,8,9]),(15,opl 8)] 0 Proofs.Tryz.f98
noncomputable def af_f98 := theAF o_f98
theorem tr_f98 : o_f98 = some af_f98 := theAF_ok (by kernel_rfl)
noncomputable abbrev o_f99 := tr [(3,8)] false [] 0 Proofs.Tryz.f99
noncomputable def af_f99 := theAF o_f99
theorem tr_f99 : o_f99 = some af_f99 := theAF_ok (by kernel_rfl)
noncomputable abbrev o_f100 := tr [(8,8),(13,17),(19,21)] false [] 0 Proofs.Tryz.f100
noncomputable def af_f100 := theAF o_f100
theorem tr_f100 : o_f100 = some af_f100 := theAF_ok (by kernel_rfl)
noncomputable abbrev o_f101 := tr [(6,6),(10,15),(17,18)] false [] 0 Proofs.Tryz.f101
noncomputable def af_f101 := theAF o_f101
theorem tr_f101 : o_f101 = some af_f101 := theAF_ok (by kernel_rfl)
noncomputable abbrev o_f102 := tr [(5,8),(10,14)] false [] 0 Proofs.Tryz.f102
noncomputable def af_f102 := theAF o_f102
theorem tr_f102 : o_f102 = some af_f102 := theAF_ok (by kernel_rfl)
noncomputable abbrev o_f103 := tr [(1,7)] false [] 0 Proofs.Tryz.f103
noncomputable def af_f103 := theAF o_f103
theorem tr_f103 : o_f103 = some af_f103 := theAF_ok (by kernel_rfl)
noncomputable abbrev o_f104 := tr [(10,22),(24,27)] false [] 0 Proofs.Tryz.f104
noncomputable def af_f104 := theAF o_f104
theorem tr_f104 : o_f104 = some af_f104 := theAF_ok (by kernel_rfl)
noncomputable abbrev o_f108 := tr [(8,8),(13,17),(19,22)] false [] 0 Proofs.Tryz.f108
noncomputable def af_f108 := theAF o_f108
theorem tr_f108 : o_f108 = some af_f108 := theAF_ok (by kernel_rfl)
noncomputable abbrev o_f110 := tr [(5,7)] false [] 0 Proofs.Tryz.f110
noncomputable def af_f110 := theAF o_f110
theorem tr_f110 : o_f110 = some af_f110 := theAF_ok (by kernel_rfl)
noncomputable abbrev o_f114 := tr [(3,22)] false [] 0 Proofs.Tryz.f114
noncomputable def af_f114 := theAF o_f114
theorem tr_f114 : o_f114 = some af_f114 := theAF_ok (by kernel_rfl)
noncomputable abbrev o_f115 := tr [(3,22)] false [] 0 Proofs.Tryz.f115
noncomputable def af_f115 := theAF o_f115
theorem tr_f115 : o_f115 = some af_f115 := theAF_ok (by kernel_rfl)
noncomputable abbrev o_f122 := tr [(6,6),(10,15),(17,18)] false [] 0 Proofs.Tryz.f122
noncomputable def af_f122 := theAF o_f122
theorem tr_f122 : o_f122 = some af_f122 := theAF_ok (by kernel_rfl)
noncomputable abbrev o_f123 := tr [(6,9),(11,11),(15,15),(25,25)] false [(6,opl 9)] 0 Proofs.Tryz.f123
noncomputable def af_f123 := theAF o_f123
theorem tr_f123 : o_f123 = some af_f123 := theAF_ok (by kernel_rfl)
noncomputable abbrev o_f132 := tr [(4,8)] false [] 0 Proofs.Tryz.f132
noncomputable def af_f132 := theAF o_f132
theorem tr_f132 : o_f132 = some af_f132 := theAF_ok (by kernel_rfl)
noncomputable abbrev o_f133 := tr [(5,9)] false [] 0 Proofs.Tryz.f133
noncomputable def af_f133 := theAF o_f133
theorem tr_f133 : o_f133 = some af_f133 := theAF_ok (by kernel_rfl)
noncomputable abbrev o_f134 := tr [(4,8)] false [] 0 Proofs.Tryz.f134
noncomputable def af_f134 := theAF o_f134
theorem tr_f134 : o_f134 = some af_f134 := theAF_ok (by kernel_rfl)
noncomputable abbrev o_f135 := tr [(5,9)] false [] 0 Proofs.Tryz.f135
noncomputable def af_f135 := theAF o_f135
theorem tr_f135 : o_f135 = some af_f135 := theAF_ok (by kernel_rfl)
noncomputable abbrev o_f141 := tr [(1,1)] false [] 0 Proofs.Tryz.f141
noncomputable def af_f141 := theAF o_f141
theorem tr_f141 : o_f141 = some af_f141 := theAF_ok (by kernel_rfl)
noncomputable abbrev o_f142 := tr [(3,5)] false [] 0 Proofs.Tryz.f142
noncomputable def af_f142 := theAF o_f142
theorem tr_f142 : o_f142 = some af_f142 := theAF_ok (by kernel_rfl)
noncomputable abbrev o_f143 := tr [] false [(1,opl 12)] 0 Proofs.Tryz.f143
noncomputable def af_f143 := theAF o_f143
theorem tr_f143 : o_f143 = some af_f143 := theAF_ok (by kernel_rfl)
noncomputable abbrev o_f145 := tr [(8,10),(15,19),(21,24)] false [] 0 Proofs.Tryz.f145
noncomputable def af_f145 := theAF o_f145
theorem tr_f145 : o_f145 = some af_f145 := theAF_ok (by kernel_rfl)
noncomputable abbrev o_f146 := tr [(9,9),(11,20)] false [] 0 Proofs.Tryz.f146
noncomputable def af_f146 := theAF o_f146
theorem tr_f146 : o_f146 = some af_f146 := theAF_ok (by kernel_rfl)
noncomputable abbrev o_f147 := tr [(8,12),(14,14),(33,38),(43,45),(53,58),(60,65),(68,68),(82,90),(92,92),(113,114),(120,129),(131,131),(149,149),(155,155)] false [(3,opp [0,1,2,3,4,5,6,7,8,9,10,11,13,14,12,15,16,17]),(9,opl 8),(16,opp [0,1,2,3,4,5,6,7,8,10,11,9,12]),(19,opp [0,1,2,3,4,5,6,7,8,9,10,11,13,14,15,16,17,12,18]),(22,opl 5),(26,opp [0,1,2,3,4,5,6,7,8,9,10,11,13,14,12,15]),(28,opl 5)] 0 Proofs.Tryz.f147
noncomputable def af_f147 := theAF o_f147
theorem tr_f147 : o_f147 = some af_f147 := theAF_ok (by kernel_rfl)
noncomputable abbrev o_f153 := tr [(24,39),(61,61),(73,75)] false [(0,opl 10),(1,opl 10),(4,opl 11),(5,opl 11),(7,opl 11)] 0 Proofs.Tryz.f153
noncomputable def af_f153 := theAF o_f153
theorem tr_f153 : o_f153 = some af_f153 := theAF_ok (by kernel_rfl)
noncomputable abbrev o_f154 := tr [(9,13),(24,24),(37,37),(49,52),(54,59),(61,68),(70,70),(72,85),(87,87),(89,92),(94,109)] false [(2,opl 10),(4,opl 10),(8,opl 11)] 0 Proofs.Tryz.f154
noncomputable def af_f154 := theAF o_f154
theorem tr_f154 : o_f154 = some af_f154 := theAF_ok (by kernel_rfl)
noncomputable abbrev o_f155 := tr [(10,14),(16,18)] false [] 0 Proofs.Tryz.f155
noncomputable def af_f155 := theAF o_f155
theorem tr_f155 : o_f155 = some af_f155 := theAF_ok (by kernel_rfl)
noncomputable abbrev o_f156 := tr [(5,17),(19,23)] false [] 0 Proofs.Tryz.f156
noncomputable def af_f156 := theAF o_f156
theorem tr_f156 : o_f156 = some af_f156 := theAF_ok (by kernel_rfl)
noncomputable abbrev o_f157 := tr [(5,8),(10,11)] false [] 0 Proofs.Tryz.f157
noncomputable def af_f157 := theAF o_f157
theorem tr_f157 : o_f157 = some af_f157 := theAF_ok (by kernel_rfl)
noncomputable abbrev o_f158 := tr [(4,6),(8,12)] false [] 0 Proofs.Tryz.f158
noncomputable def af_f158 := theAF o_f158
theorem tr_f158 : o_f158 = some af_f158 := theAF_ok (by kernel_rfl)
noncomputable abbrev o_f159 := tr [(4,4),(6,7)] false [] 0 Proofs.Tryz.f159
noncomputable def af_f159 := theAF o_f159
theorem tr_f159 : o_f159 = some af_f159 := theAF_ok (by kernel_rfl)
noncomputable abbrev o_f160 := tr [(11,44),(46,46)] false [] 0 Proofs.Tryz.f160
noncomputable def af_f160 := theAF o_f160
theorem tr_f160 : o_f160 = some af_f160 := theAF_ok (by kernel_rfl)
noncomputable abbrev o_f161 := tr [(6,12),(17,34),(36,38),(40,44),(54,62)] false [(2,opp [0,1,4,2,3,5]),(11,opp [0,1,2,4,3,5,6,7,8,9])] 0 Proofs.Tryz.f161
noncomputable def af_f161 := theAF o_f161
theorem tr_f161 : o_f161 = some af_f161 := theAF_ok (by kernel_rfl)
noncomputable abbrev o_f162 := tr [(4,8),(10,21)] false [] 0 Proofs.Tryz.f162
noncomputable def af_f162 := theAF o_f162
theorem tr_f162 : o_f162 = some af_f162 := theAF_ok (by kernel_rfl)
noncomputable abbrev o_f163 := tr [(3,16),(18,24)] false [] 0 Proofs.Tryz.f163
noncomputable def af_f163 := theAF o_f163
theorem tr_f163 : o_f163 = some af_f163 := theAF_ok (by kernel_rfl)
noncomputable abbrev o_f164 := tr [(5,5),(8,8),(20,44),(46,62),(64,64),(67,67),(76,78),(80,87),(89,96),(98,98)] false [(3,opl 10),(11,opl 8),(19,opl 18)] 0 Proofs.Tryz.f164
noncomputable def af_f164 := theAF o_f164
theorem tr_f164 : o_f164 = some af_f164 := theAF_ok (by kernel_rfl)
noncomputable abbrev o_f178 := tr [(10,12),(14,29),(31,34),(36,53),(55,62)] false [] 0 Proofs.Tryz.f178
noncomputable def af_f178 := theAF o_f178
theorem tr_f178 : o_f178 = some af_f178 := theAF_ok (by kernel_rfl)
noncomputable abbrev o_f179 := tr [(10,12),(14,29),(31,34),(36,53),(55,62)] false [] 0 Proofs.Tryz.f179
noncomputable def af_f179 := theAF o_f179
theorem tr_f179 : o_f179 = some af_f179 := theAF_ok (by kernel_rfl)
noncomputable abbrev o_f180 := tr [(8,10),(15,30)] false [(3,opl 4)] 0 Proofs.Tryz.f180
noncomputable def af_f180 := theAF o_f180
theorem tr_f180 : o_f180 = some af_f180 := theAF_ok (by kernel_rfl)
noncomputable abbrev o_f181 := tr [(6,10),(12,17)] false [] 0 Proofs.Tryz.f181
noncomputable def af_f181 := theAF o_f181
theorem tr_f181 : o_f181 = some af_f181 := theAF_ok (by kernel_rfl)
noncomputable abbrev o_f182 := tr [(3,3),(5,7)] false [] 0 Proofs.Tryz.f182
noncomputable def af_f182 := theAF o_f182
theorem tr_f182 : o_f182 = some af_f182 := theAF_ok (by kernel_rfl)
noncomputable abbrev o_f183 := tr [(7,8),(10,11),(13,14),(16,18),(20,23),(25,27),(29,29),(40,46),(48,48),(58,64),(66,70),(72,72),(85,87),(89,89),(107,111),(113,113),(133,139),(141,141),(155,157)] false [(13,opl 10),(16,opp [0,1,2,3,4,9,5,6,7,8,10,11]),(24,opp [0,1,2,3,4,5,6,7,9,10,8,11]),(27,opl 5),(28,opp [0,1,2,3,4,5,6,7,9,10,8,11]),(31,opl 13),(32,opl 6),(35,opl 13)] 0 Proofs.Tryz.f183
noncomputable def af_f183 := theAF o_f183
theorem tr_f183 : o_f183 = some af_f183 := theAF_ok (by kernel_rfl)
noncomputable abbrev o_f184 := tr [(13,14),(24,24)] false [(4,opl 9)] 0 Proofs.Tryz.f184
noncomputable def af_f184 := theAF o_f184
theorem tr_f184 : o_f184 = some af_f184 := theAF_ok (by kernel_rfl)
noncomputable abbrev o_f191 := tr [(7,15),(26,43)] false [(3,opl 10)] 0 Proofs.Tryz.f191
noncomputable def af_f191 := theAF o_f191
theorem tr_f191 : o_f191 = some af_f191 := theAF_ok (by kernel_rfl)
noncomputable abbrev o_f192 := tr [(5,7)] false [] 0 Proofs.Tryz.f192
noncomputable def af_f192 := theAF o_f192
theorem tr_f192 : o_f192 = some af_f192 := theAF_ok (by kernel_rfl)
noncomputable abbrev o_f193 := tr [(5,7)] false [] 0 Proofs.Tryz.f193
noncomputable def af_f193 := theAF o_f193
theorem tr_f193 : o_f193 = some af_f193 := theAF_ok (by kernel_rfl)
noncomputable abbrev o_f194 := tr [(3,8)] false [] 0 Proofs.Tryz.f194
noncomputable def af_f194 := theAF o_f194
theorem tr_f194 : o_f194 = some af_f194 := theAF_ok (by kernel_rfl)
noncomputable abbrev o_f195 := tr [(33,34)] false [(2,opl 27),(4,opl 16)] 0 Proofs.Tryz.f195
noncomputable def af_f195 := theAF o_f195
theorem tr_f195 : o_f195 = some af_f195 := theAF_ok (by kernel_rfl)
noncomputable abbrev o_f196 := tr [(3,16)] false [] 0 Proofs.Tryz.f196
noncomputable def af_f196 := theAF o_f196
theorem tr_f196 : o_f196 = some af_f196 := theAF_ok (by kernel_rfl)
noncomputable abbrev o_f197 := tr [(3,8)] false [] 0 Proofs.Tryz.f197
noncomputable def af_f197 := theAF o_f197
theorem tr_f197 : o_f197 = some af_f197 := theAF_ok (by kernel_rfl)
noncomputable abbrev o_f198 := tr [(5,25)] false [] 0 Proofs.Tryz.f198
noncomputable def af_f198 := theAF o_f198
theorem tr_f198 : o_f198 = some af_f198 := theAF_ok (by kernel_rfl)
noncomputable abbrev o_f199 := tr [(3,8)] false [] 0 Proofs.Tryz.f199
noncomputable def af_f199 := theAF o_f199
theorem tr_f199 : o_f199 = some af_f199 := theAF_ok (by kernel_rfl)
noncomputable abbrev o_f200 := tr [(7,7),(12,20),(22,23)] false [] 0 Proofs.Tryz.f200
noncomputable def af_f200 := theAF o_f200
theorem tr_f200 : o_f200 = some af_f200 := theAF_ok (by kernel_rfl)
noncomputable abbrev o_f201 := tr [(4,11),(13,21)] false [] 0 Proofs.Tryz.f201
noncomputable def af_f201 := theAF o_f201
theorem tr_f201 : o_f201 = some af_f201 := theAF_ok (by kernel_rfl)
noncomputable abbrev o_f202 := tr [(4,6),(8,13)] false [] 0 Proofs.Tryz.f202
noncomputable def af_f202 := theAF o_f202
theorem tr_f202 : o_f202 = some af_f202 := theAF_ok (by kernel_rfl)
noncomputable abbrev o_f203 := tr [(4,14),(16,21)] true [] 250 Proofs.Tryz.f203
noncomputable def af_f203 := theAF o_f203
theorem tr_f203 : o_f203 = some af_f203 := theAF_ok (by kernel_rfl)
noncomputable abbrev o_f204 := tr [(9,13),(15,26),(38,45),(47,49),(58,64),(66,68),(94,98)] false [(9,opl 8),(13,opl 8),(14,opl 18),(6,opl 11)] 0 Proofs.Tryz.f204
noncomputable def af_f204 := theAF o_f204
theorem tr_f204 : o_f204 = some af_f204 := theAF_ok (by kernel_rfl)
noncomputable abbrev o_f205 := tr [(7,11),(13,14),(17,20),(22,23),(25,30),(32,32),(41,41),(51,74),(76,102),(104,108)] false [(11,opl 8),(13,opl 9)] 0 Proofs.Tryz.f205
noncomputable def af_f205 := theAF o_f205
theorem tr_f205 : o_f205 = some af_f205 := theAF_ok (by kernel_rfl)
noncomputable abbrev o_f214 := tr [(10,13),(15,17),(35,36)] false [(4,opl 17),(6,opl 18)] 0 Proofs.Tryz.f214
noncomputable def af_f214 := theAF o_f214
theorem tr_f214 : o_f214 = some af_f214 := theAF_ok (by kernel_rfl)
noncomputable abbrev o_f215 := tr [(25,27),(29,32),(34,39),(51,57),(59,60),(77,79),(81,84),(86,91),(104,109),(111,112),(129,139),(141,150),(152,157),(172,184),(186,198),(200,212),(214,219)] false [(5,opl 11),(11,opl 18),(17,opl 12),(23,opl 18),(35,opl 14)] 0 Proofs.Tryz.f215
noncomputable def af_f215 := theAF o_f215
theorem tr_f215 : o_f215 = some af_f215 := theAF_ok (by kernel_rfl)
noncomputable abbrev o_f216 := tr [(10,13),(15,17),(35,36)] false [(4,opl 17),(6,opl 18)] 0 Proofs.Tryz.f216
noncomputable def af_f216 := theAF o_f216
theorem tr_f216 : o_f216 = some af_f216 := theAF_ok (by kernel_rfl)
noncomputable abbrev o_f217 := tr [(25,27),(29,32),(34,39),(51,57),(59,60),(77,79),(81,84),(86,91),(104,109),(111,112),(129,139),(141,150),(152,157),(172,184),(186,198),(200,212),(214,219)] false [(5,opl 11),(11,opl 18),(17,opl 12),(23,opl 18),(35,opl 14)] 0 Proofs.Tryz.f217
noncomputable def af_f217 := theAF o_f217
theorem tr_f217 : o_f217 = some af_f217 := theAF_ok (by kernel_rfl)
noncomputable abbrev o_f218 := tr [(8,17)] false [] 0 Proofs.Tryz.f218
noncomputable def af_f218 := theAF o_f218
theorem tr_f218 : o_f218 = some af_f218 := theAF_ok (by kernel_rfl)
noncomputable abbrev o_f219 := tr [(7,17),(22,24),(34,40)] false [(5,opl 10)] 0 Proofs.Tryz.f219
noncomputable def af_f219 := theAF o_f219
theorem tr_f219 : o_f219 = some af_f219 := theAF_ok (by kernel_rfl)
noncomputable abbrev o_f220 := tr [(20,23),(63,66),(83,89),(118,123)] false [(0,opl 11),(2,opl 14),(3,opp [0,1,3,4,5,6,7,8,9,2,10,11]),(4,opp [0,1,2,3,4,5,6,8,9,10,11,7,12,13]),(6,opp [0,1,2,3,4,5,6,7,8,9,15,10,11,12,13,14,16,17,18]),(8,opl 10),(9,opp [0,1,2,3,4,5,6,7,8,9,10,11,12,13,14,20,15,16,17,18,19,21,22,23]),(11,opl 7),(12,opl 11)] 0 Proofs.Tryz.f220
noncomputable def af_f220 := theAF o_f220
theorem tr_f220 : o_f220 = some af_f220 := theAF_ok (by kernel_rfl)
noncomputable abbrev o_f221 := tr [(14,28),(30,33),(35,39),(47,50),(52,70),(78,81),(83,101),(134,144),(146,149),(151,162),(194,197)] false [(5,opl 7),(8,opl 7),(12,opp [0,1,8,9,10,11,12,13,14,2,3,4,5,6,7,15]),(13,opp [0,1,2,3,4,5,6,7,8,9,11,12,13,14,10,15]),(18,opl 18),(19,opp [0,1,2,3,4,5,12,13,14,15,6,7,8,9,10,11,16]),(0,opl 7)] 0 Proofs.Tryz.f221
noncomputable def af_f221 := theAF o_f221
theorem tr_f221 : o_f221 = some af_f221 := theAF_ok (by kernel_rfl)
noncomputable abbrev o_f224 := tr [(5,17)] false [] 0 Proofs.Tryz.f224
noncomputable def af_f224 := theAF o_f224
theorem tr_f224 : o_f224 = some af_f224 := theAF_ok (by kernel_rfl)
noncomputable abbrev o_f225 := tr [(5,7)] false [] 0 Proofs.Tryz.f225
noncomputable def af_f225 := theAF o_f225
theorem tr_f225 : o_f225 = some af_f225 := theAF_ok (by kernel_rfl)
noncomputable abbrev o_f226 := tr [(3,13),(15,17)] false [] 0 Proofs.Tryz.f226
noncomputable def af_f226 := theAF o_f226
theorem tr_f226 : o_f226 = some af_f226 := theAF_ok (by kernel_rfl)
noncomputable abbrev o_f227 := tr [(4,13),(15,30),(32,36),(38,48),(50,56),(58,68)] false [] 0 Proofs.Tryz.f227
noncomputable def af_f227 := theAF o_f227
theorem tr_f227 : o_f227 = some af_f227 := theAF_ok (by kernel_rfl)
noncomputable abbrev o_f228 := tr [(8,8),(13,22)] false [] 0 Proofs.Tryz.f228
noncomputable def af_f228 := theAF o_f228
theorem tr_f228 : o_f228 = some af_f228 := theAF_ok (by kernel_rfl)
noncomputable abbrev o_f229 := tr [(4,5)] false [] 0 Proofs.Tryz.f229
noncomputable def af_f229 := theAF o_f229
theorem tr_f229 : o_f229 = some af_f229 := theAF_ok (by kernel_rfl)
noncomputable abbrev o_f230 := tr [(6,6),(11,23),(28,43),(45,47)] false [] 0 Proofs.Tryz.f230
noncomputable def af_f230 := theAF o_f230
theorem tr_f230 : o_f230 = some af_f230 := theAF_ok (by kernel_rfl)
noncomputable abbrev o_f231 := tr [(9,9),(12,12),(30,30),(41,47),(49,55),(57,57),(68,68),(96,100),(121,132),(134,140),(142,144),(153,155),(176,184),(203,207)] false [(3,opp [0,1,2,3,4,5,6,7,8,9,10,11,12,14,13,15,16]),(5,opl 10),(11,opl 10),(13,opl 27),(16,opl 20),(23,opl 8),(25,opp [0,1,2,3,4,5,6,7,8,9,10,11,12,13,15,16,17,14,18,19]),(28,opl 18),(30,opl 11)] 0 Proofs.Tryz.f231
noncomputable def af_f231 := theAF o_f231
theorem tr_f231 : o_f231 = some af_f231 := theAF_ok (by kernel_rfl)
noncomputable abbrev o_f246 := tr [(12,19),(21,22),(24,57)] false [] 0 Proofs.Tryz.f246
noncomputable def af_f246 := theAF o_f246
theorem tr_f246 : o_f246 = some af_f246 := theAF_ok (by kernel_rfl)
noncomputable abbrev o_f247 := tr [(12,19),(21,22),(24,57)] false [] 0 Proofs.Tryz.f247
noncomputable def af_f247 := theAF o_f247
theorem tr_f247 : o_f247 = some af_f247 := theAF_ok (by kernel_rfl)
noncomputable abbrev o_f248 := tr [(10,19),(25,27),(44,44)] false [(5,opp [0,1,2,3,4,5,6,7,8,9,10,11,13,14,12,15])] 0 Proofs.Tryz.f248
noncomputable def af_f248 := theAF o_f248
theorem tr_f248 : o_f248 = some af_f248 := theAF_ok (by kernel_rfl)
noncomputable abbrev o_f250 := tr [(1,7)] false [] 0 Proofs.Tryz.f250
noncomputable def af_f250 := theAF o_f250
theorem tr_f250 : o_f250 = some af_f250 := theAF_ok (by kernel_rfl)
noncomputable abbrev o_f251 := tr [(3,7)] true [] 250 Proofs.Tryz.f251
noncomputable def af_f251 := theAF o_f251
theorem tr_f251 : o_f251 = some af_f251 := theAF_ok (by kernel_rfl)
noncomputable abbrev o_f252 := tr [(4,24),(26,27),(29,36)] true [] 250 Proofs.Tryz.f252
noncomputable def af_f252 := theAF o_f252
theorem tr_f252 : o_f252 = some af_f252 := theAF_ok (by kernel_rfl)
noncomputable abbrev o_f253 := tr [(5,6),(15,17),(19,25),(27,40),(42,46)] false [(1,opl 10),(8,opl 16)] 0 Proofs.Tryz.f253
noncomputable def af_f253 := theAF o_f253
theorem tr_f253 : o_f253 = some af_f253 := theAF_ok (by kernel_rfl)
noncomputable abbrev o_f254 := tr [(5,10),(12,24)] false [] 0 Proofs.Tryz.f254
noncomputable def af_f254 := theAF o_f254
theorem tr_f254 : o_f254 = some af_f254 := theAF_ok (by kernel_rfl)
noncomputable abbrev o_f255 := tr [(5,5),(7,11),(13,18)] false [] 0 Proofs.Tryz.f255
noncomputable def af_f255 := theAF o_f255
theorem tr_f255 : o_f255 = some af_f255 := theAF_ok (by kernel_rfl)
noncomputable abbrev o_f256 := tr [(9,9),(12,18),(20,26),(28,34),(36,42),(44,50),(52,56),(58,62),(64,71),(73,87)] false [] 0 Proofs.Tryz.f256
noncomputable def af_f256 := theAF o_f256
theorem tr_f256 : o_f256 = some af_f256 := theAF_ok (by kernel_rfl)
noncomputable abbrev o_f266 := tr [(11,12),(14,15)] false [(3,opl 24)] 0 Proofs.Tryz.f266
noncomputable def af_f266 := theAF o_f266
theorem tr_f266 : o_f266 = some af_f266 := theAF_ok (by kernel_rfl)
noncomputable abbrev o_f267 := tr [(11,12),(14,15)] false [(3,opl 24)] 0 Proofs.Tryz.f267
noncomputable def af_f267 := theAF o_f267
theorem tr_f267 : o_f267 = some af_f267 := theAF_ok (by kernel_rfl)
noncomputable abbrev o_f268 := tr [(11,15),(17,19),(27,27)] false [(4,opl 8)] 0 Proofs.Tryz.f268
noncomputable def af_f268 := theAF o_f268
theorem tr_f268 : o_f268 = some af_f268 := theAF_ok (by kernel_rfl)
noncomputable abbrev o_f269 := tr [(2,5)] false [] 0 Proofs.Tryz.f269
noncomputable def af_f269 := theAF o_f269
theorem tr_f269 : o_f269 = some af_f269 := theAF_ok (by kernel_rfl)
noncomputable abbrev o_f270 := tr [(6,10),(12,13),(23,23)] false [(5,opl 10)] 0 Proofs.Tryz.f270
noncomputable def af_f270 := theAF o_f270
theorem tr_f270 : o_f270 = some af_f270 := theAF_ok (by kernel_rfl)
noncomputable abbrev o_f277 := tr [(2,5)] false [] 0 Proofs.Tryz.f277
noncomputable def af_f277 := theAF o_f277
theorem tr_f277 : o_f277 = some af_f277 := theAF_ok (by kernel_rfl)
noncomputable abbrev o_f278 := tr [(9,12),(14,15),(25,25)] false [(4,opl 10)] 0 Proofs.Tryz.f278
noncomputable def af_f278 := theAF o_f278
theorem tr_f278 : o_f278 = some af_f278 := theAF_ok (by kernel_rfl)
noncomputable abbrev o_f279 := tr [(2,6)] false [] 0 Proofs.Tryz.f279
noncomputable def af_f279 := theAF o_f279
theorem tr_f279 : o_f279 = some af_f279 := theAF_ok (by kernel_rfl)
noncomputable abbrev o_f280 := tr [(9,15),(20,25),(27,30),(42,46),(48,51),(62,62)] true [(8,opl 15),(16,opp [0,1,2,3,6,7,4,5,8,9])] 250 Proofs.Tryz.f280
noncomputable def af_f280 := theAF o_f280
theorem tr_f280 : o_f280 = some af_f280 := theAF_ok (by kernel_rfl)
noncomputable abbrev o_f281 := tr [(5,14),(16,17),(24,26),(28,33)] false [(5,opl 7)] 0 Proofs.Tryz.f281
noncomputable def af_f281 := theAF o_f281
theorem tr_f281 : o_f281 = some af_f281 := theAF_ok (by kernel_rfl)
noncomputable abbrev o_f282 := tr [(5,15),(17,20),(22,26),(32,36),(42,59),(61,63),(65,67),(69,71),(73,75),(77,83),(85,95),(97,98),(100,107)] false [(8,opl 6),(11,opl 6)] 0 Proofs.Tryz.f282
noncomputable def af_f282 := theAF o_f282
theorem tr_f282 : o_f282 = some af_f282 := theAF_ok (by kernel_rfl)
noncomputable abbrev o_f283 := tr [(8,8),(10,18),(20,24)] false [(6,opl 9)] 0 Proofs.Tryz.f283
noncomputable def af_f283 := theAF o_f283
theorem tr_f283 : o_f283 = some af_f283 := theAF_ok (by kernel_rfl)
noncomputable abbrev o_f284 := tr [(4,12),(14,15),(17,29)] false [] 0 Proofs.Tryz.f284
noncomputable def af_f284 := theAF o_f284
theorem tr_f284 : o_f284 = some af_f284 := theAF_ok (by kernel_rfl)
noncomputable def F : T AF := (.n none (.n none (.n none (.n (some af_f7) (.n none (.n none (.n (some af_f63) (.n none (.n (some af_f255) .e .e) .e) (.n (some af_f191) .e .e)) (.n none (.n (some af_f159) .e .e) .e)) (.n none (.n (some af_f79) (.n (some af_f143) .e .e) .e) .e)) (.n (some af_f23) (.n none (.n (some af_f71) (.n (some af_f135) .e .e) (.n (some af_f199) .e .e)) (.n (some af_f103) .e (.n (some af_f231) .e .e))) (.n none (.n none (.n none (.n (some af_f279) .e .e) .e) (.n (some af_f215) .e .e)) (.n none (.n (some af_f183) .e .e) (.n (some af_f247) .e .e))))) (.n none (.n none (.n none (.n (some af_f67) .e (.n (some af_f195) .e .e)) (.n (some af_f99) (.n (some af_f163) .e .e) (.n (some af_f227) .e .e))) (.n (some af_f51) (.n none (.n (some af_f147) .e .e) .e) (.n (some af_f115) (.n (some af_f179) .e .e) .e))) (.n none (.n (some af_f43) (.n none (.n none (.n (some af_f267) .e .e) .e) (.n (some af_f203) .e .e)) .e) (.n (some af_f59) (.n (some af_f91) (.n (some af_f155) (.n (some af_f283) .e .e) .e) (.n (some af_f219) .e .e)) (.n (some af_f123) .e (.n (some af_f251) .e .e)))))) (.n none (.n none (.n none (.n (some af_f33) (.n none .e (.n (some af_f193) .e .e)) (.n (some af_f97) (.n (some af_f161) .e .e) (.n (some af_f225) .e .e))) (.n none (.n none (.n (some af_f145) .e .e) .e) .e)) (.n (some af_f25) (.n none (.n none .e (.n (some af_f201) .e .e)) .e) (.n none (.n none (.n (some af_f153) (.n (some af_f281) .e .e) .e) (.n (some af_f217) .e .e)) .e))) (.n none (.n none (.n (some af_f37) (.n none (.n (some af_f133) .e .e) (.n (some af_f197) .e .e)) (.n (some af_f101) .e (.n (some af_f229) .e .e))) (.n (some af_f53) (.n (some af_f85) (.n none (.n (some af_f277) .e .e) .e) .e) (.n none (.n (some af_f181) .e .e) .e))) (.n none (.n (some af_f45) (.n (some af_f77) (.n (some af_f141) (.n (some af_f269) .e .e) .e) (.n (some af_f205) .e .e)) .e) (.n (some af_f61) (.n (some af_f93) (.n (some af_f157) .e .e) (.n (some af_f221) .e .e)) (.n none .e (.n (some af_f253) .e .e))))))) (.n none (.n none (.n none (.n none (.n none (.n none (.n none (.n (some af_f256) .e .e) .e) (.n (some af_f192) .e .e)) (.n none (.n (some af_f160) .e .e) (.n (some af_f224) .e .e))) (.n none (.n (some af_f80) .e .e) .e)) (.n (some af_f24) (.n (some af_f40) (.n none .e (.n (some af_f200) .e .e)) (.n (some af_f104) .e .e)) (.n none (.n none (.n none (.n (some af_f280) .e .e) .e) (.n (some af_f216) .e .e)) (.n none (.n (some af_f184) .e .e) (.n (some af_f248) .e .e))))) (.n none (.n (some af_f20) (.n (some af_f36) (.n (some af_f68) (.n (some af_f132) .e .e) (.n (some af_f196) .e .e)) (.n (some af_f100) (.n (some af_f164) .e .e) (.n (some af_f228) .e .e))) (.n (some af_f52) (.n (some af_f84) .e .e) (.n none (.n (some af_f180) .e .e) .e))) (.n none (.n none (.n none (.n none (.n (some af_f268) .e .e) .e) (.n (some af_f204) .e .e)) (.n (some af_f108) .e .e)) (.n (some af_f60) (.n (some af_f92) (.n (some af_f156) (.n (some af_f284) .e .e) .e) (.n (some af_f220) .e .e)) (.n none .e (.n (some af_f252) .e .e)))))) (.n none (.n none (.n none (.n none (.n none .e (.n (some af_f194) .e .e)) (.n (some af_f98) (.n (some af_f162) .e .e) (.n (some af_f226) .e .e))) (.n none (.n none (.n (some af_f146) .e .e) .e) (.n (some af_f114) (.n (some af_f178) .e .e) .e))) (.n none (.n none (.n none (.n none (.n (some af_f266) .e .e) .e) (.n (some af_f202) .e .e)) .e) (.n (some af_f58) (.n none (.n (some af_f154) (.n (some af_f282) .e .e) .e) (.n (some af_f218) .e .e)) (.n (some af_f122) .e (.n (some af_f250) .e .e))))) (.n none (.n none (.n none (.n none (.n (some af_f134) .e .e) (.n (some af_f198) .e .e)) (.n (some af_f102) .e (.n (some af_f230) .e .e))) (.n (some af_f54) (.n (some af_f86) (.n none (.n (some af_f278) .e .e) .e) (.n (some af_f214) .e .e)) (.n none (.n (some af_f182) .e .e) (.n (some af_f246) .e .e)))) (.n (some af_f30) (.n (some af_f46) (.n (some af_f78) (.n (some af_f142) (.n (some af_f270) .e .e) .e) .e) (.n (some af_f110) .e .e)) (.n (some af_f62) (.n none (.n (some af_f158) .e .e) .e) (.n none .e (.n (some af_f254) .e .e))))))))
theorem at_f7 : T.get F 7 = some af_f7 := by kernel_rfl
theorem at_f20 : T.get F 20 = some af_f20 := by kernel_rfl
theorem at_f23 : T.get F 23 = some af_f23 := by kernel_rfl
theorem at_f24 : T.get F 24 = some af_f24 := by kernel_rfl
theorem at_f25 : T.get F 25 = some af_f25 := by kernel_rfl
theorem at_f30 : T.get F 30 = some af_f30 := by kernel_rfl
theorem at_f33 : T.get F 33 = some af_f33 := by kernel_rfl
theorem at_f36 : T.get F 36 = some af_f36 := by kernel_rfl
theorem at_f37 : T.get F 37 = some af_f37 := by kernel_rfl
theorem at_f40 : T.get F 40 = some af_f40 := by kernel_rfl
theorem at_f43 : T.get F 43 = some af_f43 := by kernel_rfl
theorem at_f45 : T.get F 45 = some af_f45 := by kernel_rfl
theorem at_f46 : T.get F 46 = some af_f46 := by kernel_rfl
theorem at_f51 : T.get F 51 = some af_f51 := by kernel_rfl
theorem at_f52 : T.get F 52 = some af_f52 := by kernel_rfl
theorem at_f53 : T.get F 53 = some af_f53 := by kernel_rfl
theorem at_f54 : T.get F 54 = some af_f54 := by kernel_rfl
theorem at_f58 : T.get F 58 = some af_f58 := by kernel_rfl
theorem at_f59 : T.get F 59 = some af_f59 := by kernel_rfl
theorem at_f60 : T.get F 60 = some af_f60 := by kernel_rfl
theorem at_f61 : T.get F 61 = some af_f61 := by kernel_rfl
theorem at_f62 : T.get F 62 = some af_f62 := by kernel_rfl
theorem at_f63 : T.get F 63 = some af_f63 := by kernel_rfl
theorem at_f67 : T.get F 67 = some af_f67 := by kernel_rfl
theorem at_f68 : T.get F 68 = some af_f68 := by kernel_rfl
theorem at_f71 : T.get F 71 = some af_f71 := by kernel_rfl
theorem at_f77 : T.get F 77 = some af_f77 := by kernel_rfl
theorem at_f78 : T.get F 78 = some af_f78 := by kernel_rfl
theorem at_f79 : T.get F 79 = some af_f79 := by kernel_rfl
theorem at_f80 : T.get F 80 = some af_f80 := by kernel_rfl
theorem at_f84 : T.get F 84 = some af_f84 := by kernel_rfl
theorem at_f85 : T.get F 85 = some af_f85 := by kernel_rfl
theorem at_f86 : T.get F 86 = some af_f86 := by kernel_rfl
theorem at_f91 : T.get F 91 = some af_f91 := by kernel_rfl
theorem at_f92 : T.get F 92 = some af_f92 := by kernel_rfl
theorem at_f93 : T.get F 93 = some af_f93 := by kernel_rfl
theorem at_f97 : T.get F 97 = some af_f97 := by kernel_rfl
theorem at_f98 : T.get F 98 = some af_f98 := by kernel_rfl
theorem at_f99 : T.get F 99 = some af_f99 := by kernel_rfl
theorem at_f100 : T.get F 100 = some af_f100 := by kernel_rfl
theorem at_f101 : T.get F 101 = some af_f101 := by kernel_rfl
theorem at_f102 : T.get F 102 = some af_f102 := by kernel_rfl
theorem at_f103 : T.get F 103 = some af_f103 := by kernel_rfl
theorem at_f104 : T.get F 104 = some af_f104 := by kernel_rfl
theorem at_f108 : T.get F 108 = some af_f108 := by kernel_rfl
theorem at_f110 : T.get F 110 = some af_f110 := by kernel_rfl
theorem at_f114 : T.get F 114 = some af_f114 := by kernel_rfl
theorem at_f115 : T.get F 115 = some af_f115 := by kernel_rfl
theorem at_f122 : T.get F 122 = some af_f122 := by kernel_rfl
theorem at_f123 : T.get F 123 = some af_f123 := by kernel_rfl
theorem at_f132 : T.get F 132 = some af_f132 := by kernel_rfl
theorem at_f133 : T.get F 133 = some af_f133 := by kernel_rfl
theorem at_f134 : T.get F 134 = some af_f134 := by kernel_rfl
theorem at_f135 : T.get F 135 = some af_f135 := by kernel_rfl
theorem at_f141 : T.get F 141 = some af_f141 := by kernel_rfl
theorem at_f142 : T.get F 142 = some af_f142 := by kernel_rfl
theorem at_f143 : T.get F 143 = some af_f143 := by kernel_rfl
theorem at_f145 : T.get F 145 = some af_f145 := by kernel_rfl
theorem at_f146 : T.get F 146 = some af_f146 := by kernel_rfl
theorem at_f147 : T.get F 147 = some af_f147 := by kernel_rfl
theorem at_f153 : T.get F 153 = some af_f153 := by kernel_rfl
theorem at_f154 : T.get F 154 = some af_f154 := by kernel_rfl
theorem at_f155 : T.get F 155 = some af_f155 := by kernel_rfl
theorem at_f156 : T.get F 156 = some af_f156 := by kernel_rfl
theorem at_f157 : T.get F 157 = some af_f157 := by kernel_rfl
theorem at_f158 : T.get F 158 = some af_f158 := by kernel_rfl
theorem at_f159 : T.get F 159 = some af_f159 := by kernel_rfl
theorem at_f160 : T.get F 160 = some af_f160 := by kernel_rfl
theorem at_f161 : T.get F 161 = some af_f161 := by kernel_rfl
theorem at_f162 : T.get F 162 = some af_f162 := by kernel_rfl
theorem at_f163 : T.get F 163 = some af_f163 := by kernel_rfl
theorem at_f164 : T.get F 164 = some af_f164 := by kernel_rfl
theorem at_f178 : T.get F 178 = some af_f178 := by kernel_rfl
theorem at_f179 : T.get F 179 = some af_f179 := by kernel_rfl
theorem at_f180 : T.get F 180 = some af_f180 := by kernel_rfl
theorem at_f181 : T.get F 181 = some af_f181 := by kernel_rfl
theorem at_f182 : T.get F 182 = some af_f182 := by kernel_rfl
theorem at_f183 : T.get F 183 = some af_f183 := by kernel_rfl
theorem at_f184 : T.get F 184 = some af_f184 := by kernel_rfl
theorem at_f191 : T.get F 191 = some af_f191 := by kernel_rfl
theorem at_f192 : T.get F 192 = some af_f192 := by kernel_rfl
theorem at_f193 : T.get F 193 = some af_f193 := by kernel_rfl
theorem at_f194 : T.get F 194 = some af_f194 := by kernel_rfl
theorem at_f195 : T.get F 195 = some af_f195 := by kernel_rfl
theorem at_f196 : T.get F 196 = some af_f196 := by kernel_rfl
theorem at_f197 : T.get F 197 = some af_f197 := by kernel_rfl
theorem at_f198 : T.get F 198 = some af_f198 := by kernel_rfl
theorem at_f199 : T.get F 199 = some af_f199 := by kernel_rfl
theorem at_f200 : T.get F 200 = some af_f200 := by kernel_rfl
theorem at_f201 : T.get F 201 = some af_f201 := by kernel_rfl
theorem at_f202 : T.get F 202 = some af_f202 := by kernel_rfl
theorem at_f203 : T.get F 203 = some af_f203 := by kernel_rfl
theorem at_f204 : T.get F 204 = some af_f204 := by kernel_rfl
theorem at_f205 : T.get F 205 = some af_f205 := by kernel_rfl
theorem at_f214 : T.get F 214 = some af_f214 := by kernel_rfl
theorem at_f215 : T.get F 215 = some af_f215 := by kernel_rfl
theorem at_f216 : T.get F 216 = some af_f216 := by kernel_rfl
theorem at_f217 : T.get F 217 = some af_f217 := by kernel_rfl
theorem at_f218 : T.get F 218 = some af_f218 := by kernel_rfl
theorem at_f219 : T.get F 219 = some af_f219 := by kernel_rfl
theorem at_f220 : T.get F 220 = some af_f220 := by kernel_rfl
theorem at_f221 : T.get F 221 = some af_f221 := by kernel_rfl
theorem at_f224 : T.get F 224 = some af_f224 := by kernel_rfl
theorem at_f225 : T.get F 225 = some af_f225 := by kernel_rfl
theorem at_f226 : T.get F 226 = some af_f226 := by kernel_rfl
theorem at_f227 : T.get F 227 = some af_f227 := by kernel_rfl
theorem at_f228 : T.get F 228 = some af_f228 := by kernel_rfl
theorem at_f229 : T.get F 229 = some af_f229 := by kernel_rfl
theorem at_f230 : T.get F 230 = some af_f230 := by kernel_rfl
theorem at_f231 : T.get F 231 = some af_f231 := by kernel_rfl
theorem at_f246 : T.get F 246 = some af_f246 := by kernel_rfl
theorem at_f247 : T.get F 247 = some af_f247 := by kernel_rfl
theorem at_f248 : T.get F 248 = some af_f248 := by kernel_rfl
theorem at_f250 : T.get F 250 = some af_f250 := by kernel_rfl
theorem at_f251 : T.get F 251 = some af_f251 := by kernel_rfl
theorem at_f252 : T.get F 252 = some af_f252 := by kernel_rfl
theorem at_f253 : T.get F 253 = some af_f253 := by kernel_rfl
theorem at_f254 : T.get F 254 = some af_f254 := by kernel_rfl
theorem at_f255 : T.get F 255 = some af_f255 := by kernel_rfl
theorem at_f256 : T.get F 256 = some af_f256 := by kernel_rfl
theorem at_f266 : T.get F 266 = some af_f266 := by kernel_rfl
theorem at_f267 : T.get F 267 = some af_f267 := by kernel_rfl
theorem at_f268 : T.get F 268 = some af_f268 := by kernel_rfl
theorem at_f269 : T.get F 269 = some af_f269 := by kernel_rfl
theorem at_f270 : T.get F 270 = some af_f270 := by kernel_rfl
theorem at_f277 : T.get F 277 = some af_f277 := by kernel_rfl
theorem at_f278 : T.get F 278 = some af_f278 := by kernel_rfl
theorem at_f279 : T.get F 279 = some af_f279 := by kernel_rfl
theorem at_f280 : T.get F 280 = some af_f280 := by kernel_rfl
theorem at_f281 : T.get F 281 = some af_f281 := by kernel_rfl
theorem at_f282 : T.get F 282 = some af_f282 := by kernel_rfl
theorem at_f283 : T.get F 283 = some af_f283 := by kernel_rfl
theorem at_f284 : T.get F 284 = some af_f284 := by kernel_rfl
end Go.R3

/- All functions are right. -/
namespace Go.R3
open Go.Eng
set_option maxRecDepth 100000
abbrev Fg (n : Nat) (a : AF) : Prop := FnGood Go.Proofs.Tryz.prog F n a
theorem good_f7 : Fg 7 af_f7 := .one Proofs.Tryz.func7 (by kernel_rfl) tr_f7 (by kernel_rfl) (by kernel_rfl)
theorem good_f20 : Fg 20 af_f20 := .one Proofs.Tryz.func20 (by kernel_rfl) tr_f20 (by kernel_rfl) (by kernel_rfl)
theorem good_f23 : Fg 23 af_f23 := .one Proofs.Tryz.func23 (by kernel_rfl) tr_f23 (by kernel_rfl) (by kernel_rfl)
theorem good_f24 : Fg 24 af_f24 := .one Proofs.Tryz.func24 (by kernel_rfl) tr_f24 (by kernel_rfl) (by kernel_rfl)
theorem good_f25 : Fg 25 af_f25 := .one Proofs.Tryz.func25 (by kernel_rfl) tr_f25 (by kernel_rfl) (by kernel_rfl)
theorem good_f30 : Fg 30 af_f30 := .one Proofs.Tryz.func30 (by kernel_rfl) tr_f30 (by kernel_rfl) (by kernel_rfl)
theorem good_f33 : Fg 33 af_f33 := .one Proofs.Tryz.func33 (by kernel_rfl) tr_f33 (by kernel_rfl) (by kernel_rfl)
theorem good_f36 : Fg 36 af_f36 := .one Proofs.Tryz.func36 (by kernel_rfl) tr_f36 (by kernel_rfl) (by kernel_rfl)
theorem good_f37 : Fg 37 af_f37 := .one Proofs.Tryz.func37 (by kernel_rfl) tr_f37 (by kernel_rfl) (by kernel_rfl)
theorem good_f40 : Fg 40 af_f40 := .one Proofs.Tryz.func40 (by kernel_rfl) tr_f40 (by kernel_rfl) (by kernel_rfl)
theorem good_f43 : Fg 43 af_f43 := .one Proofs.Tryz.func43 (by kernel_rfl) tr_f43 (by kernel_rfl) (by kernel_rfl)
theorem good_f45 : Fg 45 af_f45 := .one Proofs.Tryz.func45 (by kernel_rfl) tr_f45 (by kernel_rfl) (by kernel_rfl)
theorem good_f46 : Fg 46 af_f46 := .one Proofs.Tryz.func46 (by kernel_rfl) tr_f46 (by kernel_rfl) (by kernel_rfl)
theorem good_f51 : Fg 51 af_f51 := .one Proofs.Tryz.func51 (by kernel_rfl) tr_f51 (by kernel_rfl) (by kernel_rfl)
theorem good_f52 : Fg 52 af_f52 := .one Proofs.Tryz.func52 (by kernel_rfl) tr_f52 (by kernel_rfl) (by kernel_rfl)
theorem good_f53 : Fg 53 af_f53 := .one Proofs.Tryz.func53 (by kernel_rfl) tr_f53 (by kernel_rfl) (by kernel_rfl)
theorem good_f54 : Fg 54 af_f54 := .one Proofs.Tryz.func54 (by kernel_rfl) tr_f54 (by kernel_rfl) (by kernel_rfl)
theorem good_f58 : Fg 58 af_f58 := .one Proofs.Tryz.func58 (by kernel_rfl) tr_f58 (by kernel_rfl) (by kernel_rfl)
theorem good_f59 : Fg 59 af_f59 := .one Proofs.Tryz.func59 (by kernel_rfl) tr_f59 (by kernel_rfl) (by kernel_rfl)
theorem good_f60 : Fg 60 af_f60 := .one Proofs.Tryz.func60 (by kernel_rfl) tr_f60 (by kernel_rfl) (by kernel_rfl)
theorem good_f61 : Fg 61 af_f61 := .one Proofs.Tryz.func61 (by kernel_rfl) tr_f61 (by kernel_rfl) (by kernel_rfl)
theorem good_f62 : Fg 62 af_f62 := .two Proofs.Tryz.func62 (by kernel_rfl) tr_f62 (by kernel_rfl) at_f103 (by kernel_rfl)
theorem good_f63 : Fg 63 af_f63 := .one Proofs.Tryz.func63 (by kernel_rfl) tr_f63 (by kernel_rfl) (by kernel_rfl)
theorem good_f67 : Fg 67 af_f67 := .one Proofs.Tryz.func67 (by kernel_rfl) tr_f67 (by kernel_rfl) (by kernel_rfl)
theorem good_f68 : Fg 68 af_f68 := .one Proofs.Tryz.func68 (by kernel_rfl) tr_f68 (by kernel_rfl) (by kernel_rfl)
theorem good_f71 : Fg 71 af_f71 := .one Proofs.Tryz.func71 (by kernel_rfl) tr_f71 (by kernel_rfl) (by kernel_rfl)
theorem good_f77 : Fg 77 af_f77 := .one Proofs.Tryz.func77 (by kernel_rfl) tr_f77 (by kernel_rfl) (by kernel_rfl)
theorem good_f78 : Fg 78 af_f78 := .one Proofs.Tryz.func78 (by kernel_rfl) tr_f78 (by kernel_rfl) (by kernel_rfl)
theorem good_f79 : Fg 79 af_f79 := .one Proofs.Tryz.func79 (by kernel_rfl) tr_f79 (by kernel_rfl) (by kernel_rfl)
theorem good_f80 : Fg 80 af_f80 := .one Proofs.Tryz.func80 (by kernel_rfl) tr_f80 (by kernel_rfl) (by kernel_rfl)
theorem good_f84 : Fg 84 af_f84 := .one Proofs.Tryz.func84 (by kernel_rfl) tr_f84 (by kernel_rfl) (by kernel_rfl)
theorem good_f85 : Fg 85 af_f85 := .one Proofs.Tryz.func85 (by kernel_rfl) tr_f85 (by kernel_rfl) (by kernel_rfl)
theorem good_f86 : Fg 86 af_f86 := .one Proofs.Tryz.func86 (by kernel_rfl) tr_f86 (by kernel_rfl) (by kernel_rfl)
theorem good_f91 : Fg 91 af_f91 := .one Proofs.Tryz.func91 (by kernel_rfl) tr_f91 (by kernel_rfl) (by kernel_rfl)
theorem good_f92 : Fg 92 af_f92 := .one Proofs.Tryz.func92 (by kernel_rfl) tr_f92 (by kernel_rfl) (by kernel_rfl)
theorem good_f93 : Fg 93 af_f93 := .one Proofs.Tryz.func93 (by kernel_rfl) tr_f93 (by kernel_rfl) (by kernel_rfl)
theorem good_f97 : Fg 97 af_f97 := .one Proofs.Tryz.func97 (by kernel_rfl) tr_f97 (by kernel_rfl) (by kernel_rfl)
theorem good_f98 : Fg 98 af_f98 := .one Proofs.Tryz.func98 (by kernel_rfl) tr_f98 (by kernel_rfl) (by kernel_rfl)
theorem good_f99 : Fg 99 af_f99 := .one Proofs.Tryz.func99 (by kernel_rfl) tr_f99 (by kernel_rfl) (by kernel_rfl)
theorem good_f100 : Fg 100 af_f100 := .one Proofs.Tryz.func100 (by kernel_rfl) tr_f100 (by kernel_rfl) (by kernel_rfl)
theorem good_f101 : Fg 101 af_f101 := .one Proofs.Tryz.func101 (by kernel_rfl) tr_f101 (by kernel_rfl) (by kernel_rfl)
theorem good_f102 : Fg 102 af_f102 := .one Proofs.Tryz.func102 (by kernel_rfl) tr_f102 (by kernel_rfl) (by kernel_rfl)
theorem good_f103 : Fg 103 af_f103 := .one Proofs.Tryz.func103 (by kernel_rfl) tr_f103 (by kernel_rfl) (by kernel_rfl)
theorem good_f104 : Fg 104 af_f104 := .one Proofs.Tryz.func104 (by kernel_rfl) tr_f104 (by kernel_rfl) (by kernel_rfl)
theorem good_f108 : Fg 108 af_f108 := .one Proofs.Tryz.func108 (by kernel_rfl) tr_f108 (by kernel_rfl) (by kernel_rfl)
theorem good_f110 : Fg 110 af_f110 := .one Proofs.Tryz.func110 (by kernel_rfl) tr_f110 (by kernel_rfl) (by kernel_rfl)
theorem good_f114 : Fg 114 af_f114 := .one Proofs.Tryz.func114 (by kernel_rfl) tr_f114 (by kernel_rfl) (by kernel_rfl)
theorem good_f115 : Fg 115 af_f115 := .one Proofs.Tryz.func115 (by kernel_rfl) tr_f115 (by kernel_rfl) (by kernel_rfl)
theorem good_f122 : Fg 122 af_f122 := .one Proofs.Tryz.func122 (by kernel_rfl) tr_f122 (by kernel_rfl) (by kernel_rfl)
theorem good_f123 : Fg 123 af_f123 := .one Proofs.Tryz.func123 (by kernel_rfl) tr_f123 (by kernel_rfl) (by kernel_rfl)
theorem good_f132 : Fg 132 af_f132 := .one Proofs.Tryz.func132 (by kernel_rfl) tr_f132 (by kernel_rfl) (by kernel_rfl)
theorem good_f133 : Fg 133 af_f133 := .one Proofs.Tryz.func133 (by kernel_rfl) tr_f133 (by kernel_rfl) (by kernel_rfl)
theorem good_f134 : Fg 134 af_f134 := .one Proofs.Tryz.func134 (by kernel_rfl) tr_f134 (by kernel_rfl) (by kernel_rfl)
theorem good_f135 : Fg 135 af_f135 := .one Proofs.Tryz.func135 (by kernel_rfl) tr_f135 (by kernel_rfl) (by kernel_rfl)
theorem good_f141 : Fg 141 af_f141 := .one Proofs.Tryz.func141 (by kernel_rfl) tr_f141 (by kernel_rfl) (by kernel_rfl)
theorem good_f142 : Fg 142 af_f142 := .one Proofs.Tryz.func142 (by kernel_rfl) tr_f142 (by kernel_rfl) (by kernel_rfl)
theorem good_f143 : Fg 143 af_f143 := .one Proofs.Tryz.func143 (by kernel_rfl) tr_f143 (by kernel_rfl) (by kernel_rfl)
theorem good_f145 : Fg 145 af_f145 := .one Proofs.Tryz.func145 (by kernel_rfl) tr_f145 (by kernel_rfl) (by kernel_rfl)
theorem good_f146 : Fg 146 af_f146 := .one Proofs.Tryz.func146 (by kernel_rfl) tr_f146 (by kernel_rfl) (by kernel_rfl)
theorem good_f147 : Fg 147 af_f147 := .one Proofs.Tryz.func147 (by kernel_rfl) tr_f147 (by kernel_rfl) (by kernel_rfl)
theorem good_f153 : Fg 153 af_f153 := .one Proofs.Tryz.func153 (by kernel_rfl) tr_f153 (by kernel_rfl) (by kernel_rfl)
theorem good_f154 : Fg 154 af_f154 := .one Proofs.Tryz.func154 (by kernel_rfl) tr_f154 (by kernel_rfl) (by kernel_rfl)
theorem good_f155 : Fg 155 af_f155 := .one Proofs.Tryz.func155 (by kernel_rfl) tr_f155 (by kernel_rfl) (by kernel_rfl)
theorem good_f156 : Fg 156 af_f156 := .one Proofs.Tryz.func156 (by kernel_rfl) tr_f156 (by kernel_rfl) (by kernel_rfl)
theorem good_f157 : Fg 157 af_f157 := .one Proofs.Tryz.func157 (by kernel_rfl) tr_f157 (by kernel_rfl) (by kernel_rfl)
theorem good_f158 : Fg 158 af_f158 := .one Proofs.Tryz.func158 (by kernel_rfl) tr_f158 (by kernel_rfl) (by kernel_rfl)
theorem good_f159 : Fg 159 af_f159 := .one Proofs.Tryz.func159 (by kernel_rfl) tr_f159 (by kernel_rfl) (by kernel_rfl)
theorem good_f160 : Fg 160 af_f160 := .one Proofs.Tryz.func160 (by kernel_rfl) tr_f160 (by kernel_rfl) (by kernel_rfl)
theorem good_f161 : Fg 161 af_f161 := .one Proofs.Tryz.func161 (by kernel_rfl) tr_f161 (by kernel_rfl) (by kernel_rfl)
theorem good_f162 : Fg 162 af_f162 := .one Proofs.Tryz.func162 (by kernel_rfl) tr_f162 (by kernel_rfl) (by kernel_rfl)
theorem good_f163 : Fg 163 af_f163 := .one Proofs.Tryz.func163 (by kernel_rfl) tr_f163 (by kernel_rfl) (by kernel_rfl)
theorem good_f164 : Fg 164 af_f164 := .one Proofs.Tryz.func164 (by kernel_rfl) tr_f164 (by kernel_rfl) (by kernel_rfl)
theorem good_f178 : Fg 178 af_f178 := .one Proofs.Tryz.func178 (by kernel_rfl) tr_f178 (by kernel_rfl) (by kernel_rfl)
theorem good_f179 : Fg 179 af_f179 := .one Proofs.Tryz.func179 (by kernel_rfl) tr_f179 (by kernel_rfl) (by kernel_rfl)
theorem good_f180 : Fg 180 af_f180 := .one Proofs.Tryz.func180 (by kernel_rfl) tr_f180 (by kernel_rfl) (by kernel_rfl)
theorem good_f181 : Fg 181 af_f181 := .one Proofs.Tryz.func181 (by kernel_rfl) tr_f181 (by kernel_rfl) (by kernel_rfl)
theorem good_f182 : Fg 182 af_f182 := .one Proofs.Tryz.func182 (by kernel_rfl) tr_f182 (by kernel_rfl) (by kernel_rfl)
theorem good_f183 : Fg 183 af_f183 := .one Proofs.Tryz.func183 (by kernel_rfl) tr_f183 (by kernel_rfl) (by kernel_rfl)
theorem good_f184 : Fg 184 af_f184 := .one Proofs.Tryz.func184 (by kernel_rfl) tr_f184 (by kernel_rfl) (by kernel_rfl)
theorem good_f191 : Fg 191 af_f191 := .one Proofs.Tryz.func191 (by kernel_rfl) tr_f191 (by kernel_rfl) (by kernel_rfl)
theorem good_f192 : Fg 192 af_f192 := .one Proofs.Tryz.func192 (by kernel_rfl) tr_f192 (by kernel_rfl) (by kernel_rfl)
theorem good_f193 : Fg 193 af_f193 := .one Proofs.Tryz.func193 (by kernel_rfl) tr_f193 (by kernel_rfl) (by kernel_rfl)
theorem good_f194 : Fg 194 af_f194 := .one Proofs.Tryz.func194 (by kernel_rfl) tr_f194 (by kernel_rfl) (by kernel_rfl)
theorem good_f195 : Fg 195 af_f195 := .one Proofs.Tryz.func195 (by kernel_rfl) tr_f195 (by kernel_rfl) (by kernel_rfl)
theorem good_f196 : Fg 196 af_f196 := .one Proofs.Tryz.func196 (by kernel_rfl) tr_f196 (by kernel_rfl) (by kernel_rfl)
theorem good_f197 : Fg 197 af_f197 := .one Proofs.Tryz.func197 (by kernel_rfl) tr_f197 (by kernel_rfl) (by kernel_rfl)
theorem good_f198 : Fg 198 af_f198 := .one Proofs.Tryz.func198 (by kernel_rfl) tr_f198 (by kernel_rfl) (by kernel_rfl)
theorem good_f199 : Fg 199 af_f199 := .one Proofs.Tryz.func199 (by kernel_rfl) tr_f199 (by kernel_rfl) (by kernel_rfl)
theorem good_f200 : Fg 200 af_f200 := .one Proofs.Tryz.func200 (by kernel_rfl) tr_f200 (by kernel_rfl) (by kernel_rfl)
theorem good_f201 : Fg 201 af_f201 := .one Proofs.Tryz.func201 (by kernel_rfl) tr_f201 (by kernel_rfl) (by kernel_rfl)
theorem good_f202 : Fg 202 af_f202 := .one Proofs.Tryz.func202 (by kernel_rfl) tr_f202 (by kernel_rfl) (by kernel_rfl)
theorem good_f203 : Fg 203 af_f203 := .two Proofs.Tryz.func203 (by kernel_rfl) tr_f203 (by kernel_rfl) at_f250 (by kernel_rfl)
theorem good_f204 : Fg 204 af_f204 := .one Proofs.Tryz.func204 (by kernel_rfl) tr_f204 (by kernel_rfl) (by kernel_rfl)
theorem good_f205 : Fg 205 af_f205 := .one Proofs.Tryz.func205 (by kernel_rfl) tr_f205 (by kernel_rfl) (by kernel_rfl)
theorem good_f214 : Fg 214 af_f214 := .one Proofs.Tryz.func214 (by kernel_rfl) tr_f214 (by kernel_rfl) (by kernel_rfl)
theorem good_f215 : Fg 215 af_f215 := .one Proofs.Tryz.func215 (by kernel_rfl) tr_f215 (by kernel_rfl) (by kernel_rfl)
theorem good_f216 : Fg 216 af_f216 := .one Proofs.Tryz.func216 (by kernel_rfl) tr_f216 (by kernel_rfl) (by kernel_rfl)
theorem good_f217 : Fg 217 af_f217 := .one Proofs.Tryz.func217 (by kernel_rfl) tr_f217 (by kernel_rfl) (by kernel_rfl)
theorem good_f218 : Fg 218 af_f218 := .one Proofs.Tryz.func218 (by kernel_rfl) tr_f218 (by kernel_rfl) (by kernel_rfl)
theorem good_f219 : Fg 219 af_f219 := .one Proofs.Tryz.func219 (by kernel_rfl) tr_f219 (by kernel_rfl) (by kernel_rfl)
theorem good_f220 : Fg 220 af_f220 := .one Proofs.Tryz.func220 (by kernel_rfl) tr_f220 (by kernel_rfl) (by kernel_rfl)
theorem good_f221 : Fg 221 af_f221 := .one Proofs.Tryz.func221 (by kernel_rfl) tr_f221 (by kernel_rfl) (by kernel_rfl)
theorem good_f224 : Fg 224 af_f224 := .one Proofs.Tryz.func224 (by kernel_rfl) tr_f224 (by kernel_rfl) (by kernel_rfl)
theorem good_f225 : Fg 225 af_f225 := .one Proofs.Tryz.func225 (by kernel_rfl) tr_f225 (by kernel_rfl) (by kernel_rfl)
theorem good_f226 : Fg 226 af_f226 := .one Proofs.Tryz.func226 (by kernel_rfl) tr_f226 (by kernel_rfl) (by kernel_rfl)
theorem good_f227 : Fg 227 af_f227 := .one Proofs.Tryz.func227 (by kernel_rfl) tr_f227 (by kernel_rfl) (by kernel_rfl)
theorem good_f228 : Fg 228 af_f228 := .one Proofs.Tryz.func228 (by kernel_rfl) tr_f228 (by kernel_rfl) (by kernel_rfl)
theorem good_f229 : Fg 229 af_f229 := .one Proofs.Tryz.func229 (by kernel_rfl) tr_f229 (by kernel_rfl) (by kernel_rfl)
theorem good_f230 : Fg 230 af_f230 := .one Proofs.Tryz.func230 (by kernel_rfl) tr_f230 (by kernel_rfl) (by kernel_rfl)
theorem good_f231 : Fg 231 af_f231 := .one Proofs.Tryz.func231 (by kernel_rfl) tr_f231 (by kernel_rfl) (by kernel_rfl)
theorem good_f246 : Fg 246 af_f246 := .one Proofs.Tryz.func246 (by kernel_rfl) tr_f246 (by kernel_rfl) (by kernel_rfl)
theorem good_f247 : Fg 247 af_f247 := .one Proofs.Tryz.func247 (by kernel_rfl) tr_f247 (by kernel_rfl) (by kernel_rfl)
theorem good_f248 : Fg 248 af_f248 := .one Proofs.Tryz.func248 (by kernel_rfl) tr_f248 (by kernel_rfl) (by kernel_rfl)
theorem good_f250 : Fg 250 af_f250 := .one Proofs.Tryz.func250 (by kernel_rfl) tr_f250 (by kernel_rfl) (by kernel_rfl)
theorem good_f251 : Fg 251 af_f251 := .two Proofs.Tryz.func251 (by kernel_rfl) tr_f251 (by kernel_rfl) at_f250 (by kernel_rfl)
theorem good_f252 : Fg 252 af_f252 := .two Proofs.Tryz.func252 (by kernel_rfl) tr_f252 (by kernel_rfl) at_f250 (by kernel_rfl)
theorem good_f253 : Fg 253 af_f253 := .one Proofs.Tryz.func253 (by kernel_rfl) tr_f253 (by kernel_rfl) (by kernel_rfl)
theorem good_f254 : Fg 254 af_f254 := .one Proofs.Tryz.func254 (by kernel_rfl) tr_f254 (by kernel_rfl) (by kernel_rfl)
theorem good_f255 : Fg 255 af_f255 := .one Proofs.Tryz.func255 (by kernel_rfl) tr_f255 (by kernel_rfl) (by kernel_rfl)
theorem good_f256 : Fg 256 af_f256 := .one Proofs.Tryz.func256 (by kernel_rfl) tr_f256 (by kernel_rfl) (by kernel_rfl)
theorem good_f266 : Fg 266 af_f266 := .one Proofs.Tryz.func266 (by kernel_rfl) tr_f266 (by kernel_rfl) (by kernel_rfl)
theorem good_f267 : Fg 267 af_f267 := .one Proofs.Tryz.func267 (by kernel_rfl) tr_f267 (by kernel_rfl) (by kernel_rfl)
theorem good_f268 : Fg 268 af_f268 := .one Proofs.Tryz.func268 (by kernel_rfl) tr_f268 (by kernel_rfl) (by kernel_rfl)
theorem good_f269 : Fg 269 af_f269 := .one Proofs.Tryz.func269 (by kernel_rfl) tr_f269 (by kernel_rfl) (by kernel_rfl)
theorem good_f270 : Fg 270 af_f270 := .one Proofs.Tryz.func270 (by kernel_rfl) tr_f270 (by kernel_rfl) (by kernel_rfl)
theorem good_f277 : Fg 277 af_f277 := .one Proofs.Tryz.func277 (by kernel_rfl) tr_f277 (by kernel_rfl) (by kernel_rfl)
theorem good_f278 : Fg 278 af_f278 := .one Proofs.Tryz.func278 (by kernel_rfl) tr_f278 (by kernel_rfl) (by kernel_rfl)
theorem good_f279 : Fg 279 af_f279 := .one Proofs.Tryz.func279 (by kernel_rfl) tr_f279 (by kernel_rfl) (by kernel_rfl)
theorem good_f280 : Fg 280 af_f280 := .two Proofs.Tryz.func280 (by kernel_rfl) tr_f280 (by kernel_rfl) at_f250 (by kernel_rfl)
theorem good_f281 : Fg 281 af_f281 := .one Proofs.Tryz.func281 (by kernel_rfl) tr_f281 (by kernel_rfl) (by kernel_rfl)
theorem good_f282 : Fg 282 af_f282 := .one Proofs.Tryz.func282 (by kernel_rfl) tr_f282 (by kernel_rfl) (by kernel_rfl)
theorem good_f283 : Fg 283 af_f283 := .one Proofs.Tryz.func283 (by kernel_rfl) tr_f283 (by kernel_rfl) (by kernel_rfl)
theorem good_f284 : Fg 284 af_f284 := .one Proofs.Tryz.func284 (by kernel_rfl) tr_f284 (by kernel_rfl) (by kernel_rfl)
theorem all_good : T.All (fun p af => FnGood Go.Proofs.Tryz.prog F p.key af) F := (.n0 (.n0 (.n0 (.n1 good_f7 (.n0 (.n0 (.n1 good_f63 (.n0 (.n1 good_f255 .e .e) .e) (.n1 good_f191 .e .e)) (.n0 (.n1 good_f159 .e .e) .e)) (.n0 (.n1 good_f79 (.n1 good_f143 .e .e) .e) .e)) (.n1 good_f23 (.n0 (.n1 good_f71 (.n1 good_f135 .e .e) (.n1 good_f199 .e .e)) (.n1 good_f103 .e (.n1 good_f231 .e .e))) (.n0 (.n0 (.n0 (.n1 good_f279 .e .e) .e) (.n1 good_f215 .e .e)) (.n0 (.n1 good_f183 .e .e) (.n1 good_f247 .e .e))))) (.n0 (.n0 (.n0 (.n1 good_f67 .e (.n1 good_f195 .e .e)) (.n1 good_f99 (.n1 good_f163 .e .e) (.n1 good_f227 .e .e))) (.n1 good_f51 (.n0 (.n1 good_f147 .e .e) .e) (.n1 good_f115 (.n1 good_f179 .e .e) .e))) (.n0 (.n1 good_f43 (.n0 (.n0 (.n1 good_f267 .e .e) .e) (.n1 good_f203 .e .e)) .e) (.n1 good_f59 (.n1 good_f91 (.n1 good_f155 (.n1 good_f283 .e .e) .e) (.n1 good_f219 .e .e)) (.n1 good_f123 .e (.n1 good_f251 .e .e)))))) (.n0 (.n0 (.n0 (.n1 good_f33 (.n0 .e (.n1 good_f193 .e .e)) (.n1 good_f97 (.n1 good_f161 .e .e) (.n1 good_f225 .e .e))) (.n0 (.n0 (.n1 good_f145 .e .e) .e) .e)) (.n1 good_f25 (.n0 (.n0 .e (.n1 good_f201 .e .e)) .e) (.n0 (.n0 (.n1 good_f153 (.n1 good_f281 .e .e) .e) (.n1 good_f217 .e .e)) .e))) (.n0 (.n0 (.n1 good_f37 (.n0 (.n1 good_f133 .e .e) (.n1 good_f197 .e .e)) (.n1 good_f101 .e (.n1 good_f229 .e .e))) (.n1 good_f53 (.n1 good_f85 (.n0 (.n1 good_f277 .e .e) .e) .e) (.n0 (.n1 good_f181 .e .e) .e))) (.n0 (.n1 good_f45 (.n1 good_f77 (.n1 good_f141 (.n1 good_f269 .e .e) .e) (.n1 good_f205 .e .e)) .e) (.n1 good_f61 (.n1 good_f93 (.n1 good_f157 .e .e) (.n1 good_f221 .e .e)) (.n0 .e (.n1 good_f253 .e .e))))))) (.n0 (.n0 (.n0 (.n0 (.n0 (.n0 (.n0 (.n1 good_f256 .e .e) .e) (.n1 good_f192 .e .e)) (.n0 (.n1 good_f160 .e .e) (.n1 good_f224 .e .e))) (.n0 (.n1 good_f80 .e .e) .e)) (.n1 good_f24 (.n1 good_f40 (.n0 .e (.n1 good_f200 .e .e)) (.n1 good_f104 .e .e)) (.n0 (.n0 (.n0 (.n1 good_f280 .e .e) .e) (.n1 good_f216 .e .e)) (.n0 (.n1 good_f184 .e .e) (.n1 good_f248 .e .e))))) (.n0 (.n1 good_f20 (.n1 good_f36 (.n1 good_f68 (.n1 good_f132 .e .e) (.n1 good_f196 .e .e)) (.n1 good_f100 (.n1 good_f164 .e .e) (.n1 good_f228 .e .e))) (.n1 good_f52 (.n1 good_f84 .e .e) (.n0 (.n1 good_f180 .e .e) .e))) (.n0 (.n0 (.n0 (.n0 (.n1 good_f268 .e .e) .e) (.n1 good_f204 .e .e)) (.n1 good_f108 .e .e)) (.n1 good_f60 (.n1 good_f92 (.n1 good_f156 (.n1 good_f284 .e .e) .e) (.n1 good_f220 .e .e)) (.n0 .e (.n1 good_f252 .e .e)))))) (.n0 (.n0 (.n0 (.n0 (.n0 .e (.n1 good_f194 .e .e)) (.n1 good_f98 (.n1 good_f162 .e .e) (.n1 good_f226 .e .e))) (.n0 (.n0 (.n1 good_f146 .e .e) .e) (.n1 good_f114 (.n1 good_f178 .e .e) .e))) (.n0 (.n0 (.n0 (.n0 (.n1 good_f266 .e .e) .e) (.n1 good_f202 .e .e)) .e) (.n1 good_f58 (.n0 (.n1 good_f154 (.n1 good_f282 .e .e) .e) (.n1 good_f218 .e .e)) (.n1 good_f122 .e (.n1 good_f250 .e .e))))) (.n0 (.n0 (.n0 (.n0 (.n1 good_f134 .e .e) (.n1 good_f198 .e .e)) (.n1 good_f102 .e (.n1 good_f230 .e .e))) (.n1 good_f54 (.n1 good_f86 (.n0 (.n1 good_f278 .e .e) .e) (.n1 good_f214 .e .e)) (.n0 (.n1 good_f182 .e .e) (.n1 good_f246 .e .e)))) (.n1 good_f30 (.n1 good_f46 (.n1 good_f78 (.n1 good_f142 (.n1 good_f270 .e .e) .e) .e) (.n1 good_f110 .e .e)) (.n1 good_f62 (.n0 (.n1 good_f158 .e .e) .e) (.n0 .e (.n1 good_f254 .e .e))))))))
theorem fns_ok : FnsOk Go.Proofs.Tryz.prog F := .of_all (by kernel_rfl) all_good
end Go.R3

namespace Go.R3
open Go.Eng
def tab : LV := [.str 2 15677, .str 2 15649, .str 2 15676, .str 2 9766, .str 2 31868, .str 1 43, .str 1 45, .str 1 42, .str 1 47, .str 1 37, .str 1 60, .str 1 61, .str 1 33, .str 1 40, .str 1 41, .str 1 91, .str 1 93, .str 1 123, .str 1 125, .str 1 59, .str 1 44, .str 1 46]
noncomputable def G0 : Roms := tabK 2 22 tab
end Go.R3

