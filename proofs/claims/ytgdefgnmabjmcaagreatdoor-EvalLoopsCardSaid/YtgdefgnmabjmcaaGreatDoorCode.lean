/- Part of a proof: texts RBNm RBTr RBOk RBG of the engine and what is proved with it; nothing is assumed. -/
import Derived.Test.YtgdefgnmabjmcaaGreatDoorEngA
import Derived.Test.YtgdefgnmabjmcaaGreatDoorEngF
import Derived.Test.YtgdefgnmabjmcaaGreatDoorProg
import Derived.Test.YtgdefgnmabjmcaaGreatDoorEngE
set_option linter.unusedVariables false
set_option linter.unusedSimpArgs false
/- Registers. -/
namespace Go.R3
open Go.Eng
def q0 : P2 := .h
def q1 : P2 := .z q0
def q2 : P2 := .o q0
def q3 : P2 := .z q1
def q4 : P2 := .o q1
def q5 : P2 := .z q2
def q6 : P2 := .o q2
def q7 : P2 := .z q3
def q8 : P2 := .o q3
def q9 : P2 := .z q4
def q10 : P2 := .o q4
def q11 : P2 := .z q5
def q12 : P2 := .o q5
def q13 : P2 := .z q6
def q14 : P2 := .o q6
def q15 : P2 := .z q7
def q16 : P2 := .o q7
def q17 : P2 := .z q8
def q18 : P2 := .o q8
def q19 : P2 := .z q9
def q20 : P2 := .o q9
def q21 : P2 := .z q10
def q22 : P2 := .o q10
def q23 : P2 := .z q11
def q24 : P2 := .o q11
def q25 : P2 := .z q12
def q26 : P2 := .o q12
def q27 : P2 := .z q13
def q28 : P2 := .o q13
def q29 : P2 := .z q14
def q30 : P2 := .o q14
def q31 : P2 := .z q15
def q32 : P2 := .o q15
def q33 : P2 := .z q16
def q34 : P2 := .o q16
def q35 : P2 := .z q17
def q36 : P2 := .o q17
def q37 : P2 := .z q18
def q38 : P2 := .o q18
def q39 : P2 := .z q19
def q40 : P2 := .o q19
def q41 : P2 := .z q20
def q42 : P2 := .o q20
def q43 : P2 := .z q21
def q44 : P2 := .o q21
def q45 : P2 := .z q22
def q46 : P2 := .o q22
def q47 : P2 := .z q23
def q48 : P2 := .o q23
def q49 : P2 := .z q24
def q50 : P2 := .o q24
def q51 : P2 := .z q25
def q52 : P2 := .o q25
def q53 : P2 := .z q26
def q54 : P2 := .o q26
def q55 : P2 := .z q27
def q56 : P2 := .o q27
def q57 : P2 := .z q28
def q58 : P2 := .o q28
def q59 : P2 := .z q29
def q60 : P2 := .o q29
def q61 : P2 := .z q30
def q62 : P2 := .o q30
def q63 : P2 := .z q31
def q64 : P2 := .o q31
def q65 : P2 := .z q32
def q66 : P2 := .o q32
def q67 : P2 := .z q33
def q68 : P2 := .o q33
def q69 : P2 := .z q34
def q70 : P2 := .o q34
def q71 : P2 := .z q35
def q72 : P2 := .o q35
def q73 : P2 := .z q36
def q74 : P2 := .o q36
def q75 : P2 := .z q37
def q76 : P2 := .o q37
def q77 : P2 := .z q38
def q78 : P2 := .o q38
def q79 : P2 := .z q39
def q80 : P2 := .o q39
def q81 : P2 := .z q40
def q82 : P2 := .o q40
def q83 : P2 := .z q41
def q84 : P2 := .o q41
def q85 : P2 := .z q42
def q86 : P2 := .o q42
def q87 : P2 := .z q43
def q88 : P2 := .o q43
def q89 : P2 := .z q44
def q90 : P2 := .o q44
def q91 : P2 := .z q45
def q92 : P2 := .o q45
def q93 : P2 := .z q46
def q94 : P2 := .o q46
def q95 : P2 := .z q47
def q96 : P2 := .o q47
def q97 : P2 := .z q48
def q98 : P2 := .o q48
def q99 : P2 := .z q49
def q100 : P2 := .o q49
def q101 : P2 := .z q50
def q102 : P2 := .o q50
def q103 : P2 := .z q51
def q104 : P2 := .o q51
def q105 : P2 := .z q52
def q106 : P2 := .o q52
def q107 : P2 := .z q53
def q108 : P2 := .o q53
def q109 : P2 := .z q54
def q110 : P2 := .o q54
def q111 : P2 := .z q55
def q112 : P2 := .o q55
def q113 : P2 := .z q56
def q114 : P2 := .o q56
def q115 : P2 := .z q57
def q116 : P2 := .o q57
def q117 : P2 := .z q58
def q118 : P2 := .o q58
def q119 : P2 := .z q59
def q120 : P2 := .o q59
def q121 : P2 := .z q60
def q122 : P2 := .o q60
def q123 : P2 := .z q61
def q124 : P2 := .o q61
def q125 : P2 := .z q62
def q126 : P2 := .o q62
def q127 : P2 := .z q63
def q128 : P2 := .o q63
def q129 : P2 := .z q64
def q130 : P2 := .o q64
def q131 : P2 := .z q65
def q132 : P2 := .o q65
def q133 : P2 := .z q66
def q134 : P2 := .o q66
def q135 : P2 := .z q67
def q136 : P2 := .o q67
def q137 : P2 := .z q68
def q138 : P2 := .o q68
def q139 : P2 := .z q69
def q140 : P2 := .o q69
def q141 : P2 := .z q70
def q142 : P2 := .o q70
def q143 : P2 := .z q71
def q144 : P2 := .o q71
def q145 : P2 := .z q72
def q146 : P2 := .o q72
def q147 : P2 := .z q73
def q148 : P2 := .o q73
def q149 : P2 := .z q74
def q150 : P2 := .o q74
def q151 : P2 := .z q75
def q152 : P2 := .o q75
def q153 : P2 := .z q76
def q154 : P2 := .o q76
def q155 : P2 := .z q77
def q156 : P2 := .o q77
def q157 : P2 := .z q78
def q158 : P2 := .o q78
def q159 : P2 := .z q79
def q160 : P2 := .o q79
def q161 : P2 := .z q80
def q162 : P2 := .o q80
def q163 : P2 := .z q81
def q164 : P2 := .o q81
def q165 : P2 := .z q82
def q166 : P2 := .o q82
def q167 : P2 := .z q83
def q168 : P2 := .o q83
def q169 : P2 := .z q84
def q170 : P2 := .o q84
def q171 : P2 := .z q85
def q172 : P2 := .o q85
def q173 : P2 := .z q86
def q174 : P2 := .o q86
def q175 : P2 := .z q87
def q176 : P2 := .o q87
def q177 : P2 := .z q88
def q178 : P2 := .o q88
def q179 : P2 := .z q89
def q180 : P2 := .o q89
def q181 : P2 := .z q90
def q182 : P2 := .o q90
def q183 : P2 := .z q91
def q184 : P2 := .o q91
def q185 : P2 := .z q92
def q186 : P2 := .o q92
def q187 : P2 := .z q93
def q188 : P2 := .o q93
def q189 : P2 := .z q94
def q190 : P2 := .o q94
def q191 : P2 := .z q95
def q192 : P2 := .o q95
def q193 : P2 := .z q96
def q194 : P2 := .o q96
def q195 : P2 := .z q97
def q196 : P2 := .o q97
def q197 : P2 := .z q98
def q198 : P2 := .o q98
def q199 : P2 := .z q99
def q200 : P2 := .o q99
def q201 : P2 := .z q100
def q202 : P2 := .o q100
def q203 : P2 := .z q101
def q204 : P2 := .o q101
def q205 : P2 := .z q102
def q206 : P2 := .o q102
def q207 : P2 := .z q103
def q208 : P2 := .o q103
def q209 : P2 := .z q104
def q210 : P2 := .o q104
def q211 : P2 := .z q105
def q212 : P2 := .o q105
def q213 : P2 := .z q106
def q214 : P2 := .o q106
def q215 : P2 := .z q107
def q216 : P2 := .o q107
def q217 : P2 := .z q108
def q218 : P2 := .o q108
def q219 : P2 := .z q109
def q220 : P2 := .o q109
end Go.R3

/- The abstract code is what the program has: the translation, run by the kernel. -/
namespace Go.R3
open Go.Eng
set_option maxRecDepth 100000
noncomputable abbrev tr (l : List (Nat × Nat)) (d : Bool) (o : Ords) (g : Nat) (f : Func) : Option AF := trF Go.Proofs.Tryz.prog (inR l) d o g f
noncomputable abbrev o_f7 := tr [(16,16),(18,29),(31,43),(45,55),(57,65),(67,74),(76,91),(94,97),(99,102),(104,107),(109,112),(114,126)] false [] 0 Proofs.Tryz.f7
noncomputable def af_f7 := theAF o_f7
theorem tr_f7 : o_f7 = some af_f7 := theAF_ok (by kernel_rfl)
noncomputable abbrev o_f9 := tr [(13,13),(15,16),(18,24),(26,29),(31,35),(37,46),(48,49),(51,74)] false [] 0 Proofs.Tryz.f9
noncomputable def af_f9 := theAF o_f9
theorem tr_f9 : o_f9 = some af_f9 := theAF_ok (by kernel_rfl)
noncomputable abbrev o_f10 := tr [(12,12),(14,24),(26,56),(58,58),(63,69),(71,71)] false [] 0 Proofs.Tryz.f10
noncomputable def af_f10 := theAF o_f10
theorem tr_f10 : o_f10 = some af_f10 := theAF_ok (by kernel_rfl)
noncomputable abbrev o_f12 := tr [(16,16),(18,31),(33,64),(66,66),(70,70),(81,81)] false [(15,opl 10)] 0 Proofs.Tryz.f12
noncomputable def af_f12 := theAF o_f12
theorem tr_f12 : o_f12 = some af_f12 := theAF_ok (by kernel_rfl)
noncomputable abbrev o_f13 := tr [(11,11),(13,13),(15,21),(23,50),(52,64)] false [] 0 Proofs.Tryz.f13
noncomputable def af_f13 := theAF o_f13
theorem tr_f13 : o_f13 = some af_f13 := theAF_ok (by kernel_rfl)
noncomputable abbrev o_f17 := tr [(12,18),(32,36),(43,51),(56,58),(66,71),(78,79)] false [(2,opl 9),(3,opl 6),(6,opl 7),(12,opl 8),(15,opl 7)] 0 Proofs.Tryz.f17
noncomputable def af_f17 := theAF o_f17
theorem tr_f17 : o_f17 = some af_f17 := theAF_ok (by kernel_rfl)
noncomputable abbrev o_f19 := tr [(6,12),(14,46)] false [] 0 Proofs.Tryz.f19
noncomputable def af_f19 := theAF o_f19
theorem tr_f19 : o_f19 = some af_f19 := theAF_ok (by kernel_rfl)
noncomputable abbrev o_f20 := tr [(16,16),(21,29),(31,38),(43,52),(54,60)] false [] 0 Proofs.Tryz.f20
noncomputable def af_f20 := theAF o_f20
theorem tr_f20 : o_f20 = some af_f20 := theAF_ok (by kernel_rfl)
noncomputable abbrev o_f21 := tr [(17,17),(24,28),(33,34),(42,50),(52,54),(65,65),(67,73),(78,96),(98,98)] false [(5,opl 8),(10,opl 10),(23,opl 13)] 0 Proofs.Tryz.f21
noncomputable def af_f21 := theAF o_f21
theorem tr_f21 : o_f21 = some af_f21 := theAF_ok (by kernel_rfl)
noncomputable abbrev o_f23 := tr [(1,1)] false [] 0 Proofs.Tryz.f23
noncomputable def af_f23 := theAF o_f23
theorem tr_f23 : o_f23 = some af_f23 := theAF_ok (by kernel_rfl)
noncomputable abbrev o_f24 := tr [(8,14),(18,24),(31,32)] false [(3,opl 4),(7,opl 7)] 0 Proofs.Tryz.f24
noncomputable def af_f24 := theAF o_f24
theorem tr_f24 : o_f24 = some af_f24 := theAF_ok (by kernel_rfl)
noncomputable abbrev o_f25 := tr [(8,8),(10,26)] false [] 0 Proofs.Tryz.f25
noncomputable def af_f25 := theAF o_f25
theorem tr_f25 : o_f25 = some af_f25 := theAF_ok (by kernel_rfl)
noncomputable abbrev o_f26 := tr [(5,30)] false [] 0 Proofs.Tryz.f26
noncomputable def af_f26 := theAF o_f26
theorem tr_f26 : o_f26 = some af_f26 := theAF_ok (by kernel_rfl)
noncomputable abbrev o_f27 := tr [(14,14),(19,20),(28,30)] false [(1,opp [0,1,2,3,4,5,8,6,7,9]),(5,opl 8)] 0 Proofs.Tryz.f27
noncomputable def af_f27 := theAF o_f27
theorem tr_f27 : o_f27 = some af_f27 := theAF_ok (by kernel_rfl)
noncomputable abbrev o_f28 := tr [(10,10),(13,14),(18,18),(21,31),(33,49),(51,59),(61,62),(64,66),(71,77),(79,88),(90,91),(96,105),(107,127),(129,129)] false [] 0 Proofs.Tryz.f28
noncomputable def af_f28 := theAF o_f28
theorem tr_f28 : o_f28 = some af_f28 := theAF_ok (by kernel_rfl)
noncomputable abbrev o_f29 := tr [(3,3),(5,7)] false [] 0 Proofs.Tryz.f29
noncomputable def af_f29 := theAF o_f29
theorem tr_f29 : o_f29 = some af_f29 := theAF_ok (by kernel_rfl)
noncomputable abbrev o_f30 := tr [(7,15),(20,33)] false [] 0 Proofs.Tryz.f30
noncomputable def af_f30 := theAF o_f30
theorem tr_f30 : o_f30 = some af_f30 := theAF_ok (by kernel_rfl)
noncomputable abbrev o_f31 := tr [(6,9),(14,15),(23,24)] false [(5,opl 8)] 0 Proofs.Tryz.f31
noncomputable def af_f31 := theAF o_f31
theorem tr_f31 : o_f31 = some af_f31 := theAF_ok (by kernel_rfl)
noncomputable abbrev o_f32 := tr [(6,6),(11,20)] false [] 0 Proofs.Tryz.f32
noncomputable def af_f32 := theAF o_f32
theorem tr_f32 : o_f32 = some af_f32 := theAF_ok (by kernel_rfl)
noncomputable abbrev o_f33 := tr [(12,12),(16,16),(19,24),(29,48),(52,53)] false [(8,opl 5)] 0 Proofs.Tryz.f33
noncomputable def af_f33 := theAF o_f33
theorem tr_f33 : o_f33 = some af_f33 := theAF_ok (by kernel_rfl)
noncomputable abbrev o_f34 := tr [(5,8)] false [] 0 Proofs.Tryz.f34
noncomputable def af_f34 := theAF o_f34
theorem tr_f34 : o_f34 = some af_f34 := theAF_ok (by kernel_rfl)
noncomputable abbrev o_f35 := tr [] false [(1,opl 4)] 0 Proofs.Tryz.f35
noncomputable def af_f35 := theAF o_f35
theorem tr_f35 : o_f35 = some af_f35 := theAF_ok (by kernel_rfl)
noncomputable abbrev o_f36 := tr [(12,18),(29,37),(42,47),(59,67)] true [(2,opl 10),(10,opl 11)] 57 Proofs.Tryz.f36
noncomputable def af_f36 := theAF o_f36
theorem tr_f36 : o_f36 = some af_f36 := theAF_ok (by kernel_rfl)
noncomputable abbrev o_f37 := tr [(10,11),(14,31),(36,46),(48,50)] false [] 0 Proofs.Tryz.f37
noncomputable def af_f37 := theAF o_f37
theorem tr_f37 : o_f37 = some af_f37 := theAF_ok (by kernel_rfl)
noncomputable abbrev o_f38 := tr [(8,13),(20,27),(35,40),(42,43)] false [(3,opl 7),(8,opl 8)] 0 Proofs.Tryz.f38
noncomputable def af_f38 := theAF o_f38
theorem tr_f38 : o_f38 = some af_f38 := theAF_ok (by kernel_rfl)
noncomputable abbrev o_f39 := tr [(5,19),(21,32),(34,35),(37,40),(50,57),(59,61),(69,84),(86,88)] false [(11,opp [0,1,2,4,3,5,6,7,8,9]),(15,opl 8)] 0 Proofs.Tryz.f39
noncomputable def af_f39 := theAF o_f39
theorem tr_f39 : o_f39 = some af_f39 := theAF_ok (by kernel_rfl)
noncomputable abbrev o_f40 := tr [(3,8)] false [] 0 Proofs.Tryz.f40
noncomputable def af_f40 := theAF o_f40
theorem tr_f40 : o_f40 = some af_f40 := theAF_ok (by kernel_rfl)
noncomputable abbrev o_f41 := tr [(6,9),(11,11),(15,15),(25,25)] false [(6,opl 9)] 0 Proofs.Tryz.f41
noncomputable def af_f41 := theAF o_f41
theorem tr_f41 : o_f41 = some af_f41 := theAF_ok (by kernel_rfl)
noncomputable abbrev o_f42 := tr [(10,13),(19,29),(31,31)] false [] 0 Proofs.Tryz.f42
noncomputable def af_f42 := theAF o_f42
theorem tr_f42 : o_f42 = some af_f42 := theAF_ok (by kernel_rfl)
noncomputable abbrev o_f43 := tr [(5,30)] false [] 0 Proofs.Tryz.f43
noncomputable def af_f43 := theAF o_f43
theorem tr_f43 : o_f43 = some af_f43 := theAF_ok (by kernel_rfl)
noncomputable abbrev o_f44 := tr [(3,3),(5,7)] false [] 0 Proofs.Tryz.f44
noncomputable def af_f44 := theAF o_f44
theorem tr_f44 : o_f44 = some af_f44 := theAF_ok (by kernel_rfl)
noncomputable abbrev o_f45 := tr [(6,13),(18,28)] false [] 0 Proofs.Tryz.f45
noncomputable def af_f45 := theAF o_f45
theorem tr_f45 : o_f45 = some af_f45 := theAF_ok (by kernel_rfl)
noncomputable abbrev o_f46 := tr [(2,11)] false [] 0 Proofs.Tryz.f46
noncomputable def af_f46 := theAF o_f46
theorem tr_f46 : o_f46 = some af_f46 := theAF_ok (by kernel_rfl)
noncomputable abbrev o_f47 := tr [(9,9),(11,22),(24,24),(31,31)] false [(6,[(0,.plain),(1,.plain),(2,.plain),(4,.plain),(5,.plain),(3,.plain),(6,.wr),(7,.wr)])] 0 Proofs.Tryz.f47
noncomputable def af_f47 := theAF o_f47
theorem tr_f47 : o_f47 = some af_f47 := theAF_ok (by kernel_rfl)
noncomputable abbrev o_f48 := tr [(5,8)] false [] 0 Proofs.Tryz.f48
noncomputable def af_f48 := theAF o_f48
theorem tr_f48 : o_f48 = some af_f48 := theAF_ok (by kernel_rfl)
noncomputable abbrev o_f49 := tr [(5,6),(10,10),(29,31),(35,35),(54,54)] false [(4,opl 18),(10,opl 18)] 0 Proofs.Tryz.f49
noncomputable def af_f49 := theAF o_f49
theorem tr_f49 : o_f49 = some af_f49 := theAF_ok (by kernel_rfl)
noncomputable abbrev o_f50 := tr [(7,7),(13,16),(18,20),(22,29),(31,31)] false [] 0 Proofs.Tryz.f50
noncomputable def af_f50 := theAF o_f50
theorem tr_f50 : o_f50 = some af_f50 := theAF_ok (by kernel_rfl)
noncomputable abbrev o_f51 := tr [(10,10),(14,14),(17,22),(27,40),(44,45)] false [(8,opl 5)] 0 Proofs.Tryz.f51
noncomputable def af_f51 := theAF o_f51
theorem tr_f51 : o_f51 = some af_f51 := theAF_ok (by kernel_rfl)
noncomputable abbrev o_f52 := tr [] false [(1,opp [0,1,2,3,4,9,5,6,7,8,10,11]),(2,opl 18),(3,opp [0,1,2,3,4,5,6,7,8,10,11,12,13,14,15,9,16,17,18,19,20,21,22,23])] 0 Proofs.Tryz.f52
noncomputable def af_f52 := theAF o_f52
theorem tr_f52 : o_f52 = some af_f52 := theAF_ok (by kernel_rfl)
noncomputable abbrev o_f53 := tr [(9,14),(19,39)] false [] 0 Proofs.Tryz.f53
noncomputable def af_f53 := theAF o_f53
theorem tr_f53 : o_f53 = some af_f53 := theAF_ok (by kernel_rfl)
noncomputable abbrev o_f54 := tr [(8,8),(13,17),(19,21)] false [] 0 Proofs.Tryz.f54
noncomputable def af_f54 := theAF o_f54
theorem tr_f54 : o_f54 = some af_f54 := theAF_ok (by kernel_rfl)
noncomputable abbrev o_f55 := tr [(6,6),(10,15),(17,18)] false [] 0 Proofs.Tryz.f55
noncomputable def af_f55 := theAF o_f55
theorem tr_f55 : o_f55 = some af_f55 := theAF_ok (by kernel_rfl)
noncomputable abbrev o_f56 := tr [(5,8),(10,14)] false [] 0 Proofs.Tryz.f56
noncomputable def af_f56 := theAF o_f56
theorem tr_f56 : o_f56 = some af_f56 := theAF_ok (by kernel_rfl)
noncomputable abbrev o_f57 := tr [(1,7)] false [] 0 Proofs.Tryz.f57
noncomputable def af_f57 := theAF o_f57
theorem tr_f57 : o_f57 = some af_f57 := theAF_ok (by kernel_rfl)
noncomputable abbrev o_f58 := tr [(10,22),(24,27)] false [] 0 Proofs.Tryz.f58
noncomputable def af_f58 := theAF o_f58
theorem tr_f58 : o_f58 = some af_f58 := theAF_ok (by kernel_rfl)
noncomputable abbrev o_f59 := tr [(24,39),(61,61),(73,75)] false [(0,opl 10),(1,opl 10),(4,opl 11),(5,opl 11),(7,opl 11)] 0 Proofs.Tryz.f59
noncomputable def af_f59 := theAF o_f59
theorem tr_f59 : o_f59 = some af_f59 := theAF_ok (by kernel_rfl)
noncomputable abbrev o_f60 := tr [(9,13),(24,24),(37,37),(49,52),(54,59),(61,68),(70,70),(72,85),(87,87),(89,92),(94,109)] false [(2,opl 10),(4,opl 10),(8,opl 11)] 0 Proofs.Tryz.f60
noncomputable def af_f60 := theAF o_f60
theorem tr_f60 : o_f60 = some af_f60 := theAF_ok (by kernel_rfl)
noncomputable abbrev o_f61 := tr [(10,14),(16,18)] false [] 0 Proofs.Tryz.f61
noncomputable def af_f61 := theAF o_f61
theorem tr_f61 : o_f61 = some af_f61 := theAF_ok (by kernel_rfl)
noncomputable abbrev o_f62 := tr [(5,17),(19,23)] false [] 0 Proofs.Tryz.f62
noncomputable def af_f62 := theAF o_f62
theorem tr_f62 : o_f62 = some af_f62 := theAF_ok (by kernel_rfl)
noncomputable abbrev o_f63 := tr [(5,8),(10,11)] false [] 0 Proofs.Tryz.f63
noncomputable def af_f63 := theAF o_f63
theorem tr_f63 : o_f63 = some af_f63 := theAF_ok (by kernel_rfl)
noncomputable abbrev o_f64 := tr [(4,6),(8,12)] false [] 0 Proofs.Tryz.f64
noncomputable def af_f64 := theAF o_f64
theorem tr_f64 : o_f64 = some af_f64 := theAF_ok (by kernel_rfl)
noncomputable abbrev o_f65 := tr [(4,4),(6,7)] false [] 0 Proofs.Tryz.f65
noncomputable def af_f65 := theAF o_f65
theorem tr_f65 : o_f65 = some af_f65 := theAF_ok (by kernel_rfl)
noncomputable abbrev o_f66 := tr [(11,44),(46,46)] false [] 0 Proofs.Tryz.f66
noncomputable def af_f66 := theAF o_f66
theorem tr_f66 : o_f66 = some af_f66 := theAF_ok (by kernel_rfl)
noncomputable abbrev o_f67 := tr [(6,12),(17,34),(36,38),(40,44),(54,62)] false [(2,opp [0,1,4,2,3,5]),(11,opp [0,1,2,4,3,5,6,7,8,9])] 0 Proofs.Tryz.f67
noncomputable def af_f67 := theAF o_f67
theorem tr_f67 : o_f67 = some af_f67 := theAF_ok (by kernel_rfl)
noncomputable abbrev o_f68 := tr [(4,8),(10,21)] false [] 0 Proofs.Tryz.f68
noncomputable def af_f68 := theAF o_f68
theorem tr_f68 : o_f68 = some af_f68 := theAF_ok (by kernel_rfl)
noncomputable abbrev o_f69 := tr [(6,9),(11,11),(15,15),(25,25)] false [(6,opl 9)] 0 Proofs.Tryz.f69
noncomputable def af_f69 := theAF o_f69
theorem tr_f69 : o_f69 = some af_f69 := theAF_ok (by kernel_rfl)
noncomputable abbrev o_f70 := tr [(4,8)] false [] 0 Proofs.Tryz.f70
noncomputable def af_f70 := theAF o_f70
theorem tr_f70 : o_f70 = some af_f70 := theAF_ok (by kernel_rfl)
noncomputable abbrev o_f71 := tr [(5,9)] false [] 0 Proofs.Tryz.f71
noncomputable def af_f71 := theAF o_f71
theorem tr_f71 : o_f71 = some af_f71 := theAF_ok (by kernel_rfl)
noncomputable abbrev o_f72 := tr [(5,7)] false [] 0 Proofs.Tryz.f72
noncomputable def af_f72 := theAF o_f72
theorem tr_f72 : o_f72 = some af_f72 := theAF_ok (by kernel_rfl)
noncomputable abbrev o_f73 := tr [(4,8)] false [] 0 Proofs.Tryz.f73
noncomputable def af_f73 := theAF o_f73
theorem tr_f73 : o_f73 = some af_f73 := theAF_ok (by kernel_rfl)
noncomputable abbrev o_f74 := tr [(5,9)] false [] 0 Proofs.Tryz.f74
noncomputable def af_f74 := theAF o_f74
theorem tr_f74 : o_f74 = some af_f74 := theAF_ok (by kernel_rfl)
noncomputable abbrev o_f75 := tr [(6,6),(10,15),(17,18)] false [] 0 Proofs.Tryz.f75
noncomputable def af_f75 := theAF o_f75
theorem tr_f75 : o_f75 = some af_f75 := theAF_ok (by kernel_rfl)
noncomputable abbrev o_f76 := tr [(3,22)] false [] 0 Proofs.Tryz.f76
noncomputable def af_f76 := theAF o_f76
theorem tr_f76 : o_f76 = some af_f76 := theAF_ok (by kernel_rfl)
noncomputable abbrev o_f77 := tr [(3,4)] false [] 0 Proofs.Tryz.f77
noncomputable def af_f77 := theAF o_f77
theorem tr_f77 : o_f77 = some af_f77 := theAF_ok (by kernel_rfl)
noncomputable abbrev o_f78 := tr [(3,22)] false [] 0 Proofs.Tryz.f78
noncomputable def af_f78 := theAF o_f78
theorem tr_f78 : o_f78 = some af_f78 := theAF_ok (by kernel_rfl)
noncomputable abbrev o_f79 := tr [(8,8),(13,17),(19,22)] false [] 0 Proofs.Tryz.f79
noncomputable def af_f79 := theAF o_f79
theorem tr_f79 : o_f79 = some af_f79 := theAF_ok (by kernel_rfl)
noncomputable abbrev o_f80 := tr [(8,10),(15,19),(21,24)] false [] 0 Proofs.Tryz.f80
noncomputable def af_f80 := theAF o_f80
theorem tr_f80 : o_f80 = some af_f80 := theAF_ok (by kernel_rfl)
noncomputable abbrev o_f81 := tr [(9,9),(11,20)] false [] 0 Proofs.Tryz.f81
noncomputable def af_f81 := theAF o_f81
theorem tr_f81 : o_f81 = some af_f81 := theAF_ok (by kernel_rfl)
noncomputable abbrev o_f82 := tr [(8,12),(14,14),(33,38),(43,45),(53,58),(60,65),(68,68),(82,90),(92,92),(113,114),(120,129),(131,131),(149,149),(155,155)] false [(3,opp [0,1,2,3,4,5,6,7,8,9,10,11,13,14,12,15,16,17]),(9,opl 8),(16,opp [0,1,2,3,4,5,6,7,8,10,11,9,12]),(19,opp [0,1,2,3,4,5,6,7,8,9,10,11,13,14,15,16,17,12,18]),(22,opl 5),(26,opp [0,1,2,3,4,5,6,7,8,9,10,11,13,14,12,15]),(28,opl 5)] 0 Proofs.Tryz.f82
noncomputable def af_f82 := theAF o_f82
theorem tr_f82 : o_f82 = some af_f82 := theAF_ok (by kernel_rfl)
noncomputable abbrev o_f83 := tr [(3,16),(18,24)] false [] 0 Proofs.Tryz.f83
noncomputable def af_f83 := theAF o_f83
theorem tr_f83 : o_f83 = some af_f83 := theAF_ok (by kernel_rfl)
noncomputable abbrev o_f84 := tr [(5,5),(8,8),(20,44),(46,62),(64,64),(67,67),(76,78),(80,87),(89,96),(98,98)] false [(3,opl 10),(11,opl 8),(19,opl 18)] 0 Proofs.Tryz.f84
noncomputable def af_f84 := theAF o_f84
theorem tr_f84 : o_f84 = some af_f84 := theAF_ok (by kernel_rfl)
noncomputable abbrev o_f85 := tr [(7,15),(26,43)] false [(3,opl 10)] 0 Proofs.Tryz.f85
noncomputable def af_f85 := theAF o_f85
theorem tr_f85 : o_f85 = some af_f85 := theAF_ok (by kernel_rfl)
noncomputable abbrev o_f86 := tr [(5,7)] false [] 0 Proofs.Tryz.f86
noncomputable def af_f86 := theAF o_f86
theorem tr_f86 : o_f86 = some af_f86 := theAF_ok (by kernel_rfl)
noncomputable abbrev o_f87 := tr [(5,7)] false [] 0 Proofs.Tryz.f87
noncomputable def af_f87 := theAF o_f87
theorem tr_f87 : o_f87 = some af_f87 := theAF_ok (by kernel_rfl)
noncomputable abbrev o_f88 := tr [(3,8)] false [] 0 Proofs.Tryz.f88
noncomputable def af_f88 := theAF o_f88
theorem tr_f88 : o_f88 = some af_f88 := theAF_ok (by kernel_rfl)
noncomputable abbrev o_f89 := tr [(33,34)] false [(2,opl 27),(4,opl 16)] 0 Proofs.Tryz.f89
noncomputable def af_f89 := theAF o_f89
theorem tr_f89 : o_f89 = some af_f89 := theAF_ok (by kernel_rfl)
noncomputable abbrev o_f90 := tr [(3,16)] false [] 0 Proofs.Tryz.f90
noncomputable def af_f90 := theAF o_f90
theorem tr_f90 : o_f90 = some af_f90 := theAF_ok (by kernel_rfl)
noncomputable abbrev o_f91 := tr [(3,8)] false [] 0 Proofs.Tryz.f91
noncomputable def af_f91 := theAF o_f91
theorem tr_f91 : o_f91 = some af_f91 := theAF_ok (by kernel_rfl)
noncomputable abbrev o_f92 := tr [(5,25)] false [] 0 Proofs.Tryz.f92
noncomputable def af_f92 := theAF o_f92
theorem tr_f92 : o_f92 = some af_f92 := theAF_ok (by kernel_rfl)
noncomputable abbrev o_f93 := tr [(3,8)] false [] 0 Proofs.Tryz.f93
noncomputable def af_f93 := theAF o_f93
theorem tr_f93 : o_f93 = some af_f93 := theAF_ok (by kernel_rfl)
noncomputable abbrev o_f94 := tr [(7,7),(12,20),(22,23)] false [] 0 Proofs.Tryz.f94
noncomputable def af_f94 := theAF o_f94
theorem tr_f94 : o_f94 = some af_f94 := theAF_ok (by kernel_rfl)
noncomputable abbrev o_f95 := tr [(4,11),(13,21)] false [] 0 Proofs.Tryz.f95
noncomputable def af_f95 := theAF o_f95
theorem tr_f95 : o_f95 = some af_f95 := theAF_ok (by kernel_rfl)
noncomputable abbrev o_f96 := tr [(4,6),(8,13)] false [] 0 Proofs.Tryz.f96
noncomputable def af_f96 := theAF o_f96
theorem tr_f96 : o_f96 = some af_f96 := theAF_ok (by kernel_rfl)
noncomputable abbrev o_f97 := tr [(4,14),(16,21)] true [] 130 Proofs.Tryz.f97
noncomputable def af_f97 := theAF o_f97
theorem tr_f97 : o_f97 = some af_f97 := theAF_ok (by kernel_rfl)
noncomputable abbrev o_f98 := tr [(10,12),(14,29),(31,34),(36,53),(55,62)] false [] 0 Proofs.Tryz.f98
noncomputable def af_f98 := theAF o_f98
theorem tr_f98 : o_f98 = some af_f98 := theAF_ok (by kernel_rfl)
noncomputable abbrev o_f99 := tr [(5,7)] false [] 0 Proofs.Tryz.f99
noncomputable def af_f99 := theAF o_f99
theorem tr_f99 : o_f99 = some af_f99 := theAF_ok (by kernel_rfl)
noncomputable abbrev o_f100 := tr [(10,12),(14,29),(31,34),(36,53),(55,62)] false [] 0 Proofs.Tryz.f100
noncomputable def af_f100 := theAF o_f100
theorem tr_f100 : o_f100 = some af_f100 := theAF_ok (by kernel_rfl)
noncomputable abbrev o_f101 := tr [(6,10),(12,17)] false [] 0 Proofs.Tryz.f101
noncomputable def af_f101 := theAF o_f101
theorem tr_f101 : o_f101 = some af_f101 := theAF_ok (by kernel_rfl)
noncomputable abbrev o_f102 := tr [(3,3),(5,7)] false [] 0 Proofs.Tryz.f102
noncomputable def af_f102 := theAF o_f102
theorem tr_f102 : o_f102 = some af_f102 := theAF_ok (by kernel_rfl)
noncomputable abbrev o_f103 := tr [(7,8),(10,11),(13,14),(16,18),(20,23),(25,27),(29,29),(40,46),(48,48),(58,64),(66,70),(72,72),(85,87),(89,89),(107,111),(113,113),(133,139),(141,141),(155,157)] false [(13,opl 10),(16,opp [0,1,2,3,4,9,5,6,7,8,10,11]),(24,opp [0,1,2,3,4,5,6,7,9,10,8,11]),(27,opl 5),(28,opp [0,1,2,3,4,5,6,7,9,10,8,11]),(31,opl 13),(32,opl 6),(35,opl 13)] 0 Proofs.Tryz.f103
noncomputable def af_f103 := theAF o_f103
theorem tr_f103 : o_f103 = some af_f103 := theAF_ok (by kernel_rfl)
noncomputable abbrev o_f104 := tr [(8,10),(15,30)] false [(3,opl 4)] 0 Proofs.Tryz.f104
noncomputable def af_f104 := theAF o_f104
theorem tr_f104 : o_f104 = some af_f104 := theAF_ok (by kernel_rfl)
noncomputable abbrev o_f105 := tr [(13,14),(24,24)] false [(4,opl 9)] 0 Proofs.Tryz.f105
noncomputable def af_f105 := theAF o_f105
theorem tr_f105 : o_f105 = some af_f105 := theAF_ok (by kernel_rfl)
noncomputable abbrev o_f106 := tr [(1,1)] false [] 0 Proofs.Tryz.f106
noncomputable def af_f106 := theAF o_f106
theorem tr_f106 : o_f106 = some af_f106 := theAF_ok (by kernel_rfl)
noncomputable abbrev o_f107 := tr [(9,13),(15,26),(38,45),(47,49),(58,64),(66,68),(94,98)] false [(9,opl 8),(13,opl 8),(14,opl 18),(6,opl 11)] 0 Proofs.Tryz.f107
noncomputable def af_f107 := theAF o_f107
theorem tr_f107 : o_f107 = some af_f107 := theAF_ok (by kernel_rfl)
noncomputable abbrev o_f108 := tr [(7,11),(13,14),(17,20),(22,23),(25,30),(32,32),(41,41),(51,74),(76,102),(104,108)] false [(11,opl 8),(13,opl 9)] 0 Proofs.Tryz.f108
noncomputable def af_f108 := theAF o_f108
theorem tr_f108 : o_f108 = some af_f108 := theAF_ok (by kernel_rfl)
noncomputable abbrev o_f109 := tr [(5,17)] false [] 0 Proofs.Tryz.f109
noncomputable def af_f109 := theAF o_f109
theorem tr_f109 : o_f109 = some af_f109 := theAF_ok (by kernel_rfl)
noncomputable abbrev o_f110 := tr [(5,7)] false [] 0 Proofs.Tryz.f110
noncomputable def af_f110 := theAF o_f110
theorem tr_f110 : o_f110 = some af_f110 := theAF_ok (by kernel_rfl)
noncomputable abbrev o_f111 := tr [(3,13),(15,17)] false [] 0 Proofs.Tryz.f111
noncomputable def af_f111 := theAF o_f111
theorem tr_f111 : o_f111 = some af_f111 := theAF_ok (by kernel_rfl)
noncomputable abbrev o_f112 := tr [(4,13),(15,30),(32,36),(38,48),(50,56),(58,68)] false [] 0 Proofs.Tryz.f112
noncomputable def af_f112 := theAF o_f112
theorem tr_f112 : o_f112 = some af_f112 := theAF_ok (by kernel_rfl)
noncomputable abbrev o_f113 := tr [(10,13),(15,17),(35,36)] false [(4,opl 17),(6,opl 18)] 0 Proofs.Tryz.f113
noncomputable def af_f113 := theAF o_f113
theorem tr_f113 : o_f113 = some af_f113 := theAF_ok (by kernel_rfl)
noncomputable abbrev o_f114 := tr [(25,27),(29,32),(34,39),(51,57),(59,60),(77,79),(81,84),(86,91),(104,109),(111,112),(129,139),(141,150),(152,157),(172,184),(186,198),(200,212),(214,219)] false [(5,opl 11),(11,opl 18),(17,opl 12),(23,opl 18),(35,opl 14)] 0 Proofs.Tryz.f114
noncomputable def af_f114 := theAF o_f114
theorem tr_f114 : o_f114 = some af_f114 := theAF_ok (by kernel_rfl)
noncomputable abbrev o_f116 := tr [(10,13),(15,17),(35,36)] false [(4,opl 17),(6,opl 18)] 0 Proofs.Tryz.f116
noncomputable def af_f116 := theAF o_f116
theorem tr_f116 : o_f116 = some af_f116 := theAF_ok (by kernel_rfl)
noncomputable abbrev o_f117 := tr [(25,27),(29,32),(34,39),(51,57),(59,60),(77,79),(81,84),(86,91),(104,109),(111,112),(129,139),(141,150),(152,157),(172,184),(186,198),(200,212),(214,219)] false [(5,opl 11),(11,opl 18),(17,opl 12),(23,opl 18),(35,opl 14)] 0 Proofs.Tryz.f117
noncomputable def af_f117 := theAF o_f117
theorem tr_f117 : o_f117 = some af_f117 := theAF_ok (by kernel_rfl)
noncomputable abbrev o_f118 := tr [(7,17),(22,24),(34,40)] false [(5,opl 10)] 0 Proofs.Tryz.f118
noncomputable def af_f118 := theAF o_f118
theorem tr_f118 : o_f118 = some af_f118 := theAF_ok (by kernel_rfl)
noncomputable abbrev o_f119 := tr [(1,1)] false [] 0 Proofs.Tryz.f119
noncomputable def af_f119 := theAF o_f119
theorem tr_f119 : o_f119 = some af_f119 := theAF_ok (by kernel_rfl)
noncomputable abbrev o_f120 := tr [(20,23),(63,66),(83,89),(118,123)] false [(0,opl 11),(2,opl 14),(3,opp [0,1,3,4,5,6,7,8,9,2,10,11]),(4,opp [0,1,2,3,4,5,6,8,9,10,11,7,12,13]),(6,opp [0,1,2,3,4,5,6,7,8,9,15,10,11,12,13,14,16,17,18]),(8,opl 10),(9,opp [0,1,2,3,4,5,6,7,8,9,10,11,12,13,14,20,15,16,17,18,19,21,22,23]),(11,opl 7),(12,opl 11)] 0 Proofs.Tryz.f120
noncomputable def af_f120 := theAF o_f120
theorem tr_f120 : o_f120 = some af_f120 := theAF_ok (by kernel_rfl)
noncomputable abbrev o_f121 := tr [(3,5)] false [] 0 Proofs.Tryz.f121
noncomputable def af_f121 := theAF o_f121
theorem tr_f121 : o_f121 = some af_f121 := theAF_ok (by kernel_rfl)
noncomputable abbrev o_f122 := tr [(14,28),(30,33),(35,39),(47,50),(52,70),(78,81),(83,101),(134,144),(146,149),(151,162),(194,197)] false [(5,opl 7),(8,opl 7),(12,opp [0,1,8,9,10,11,12,13,14,2,3,4,5,6,7,15]),(13,opp [0,1,2,3,4,5,6,7,8,9,11,12,13,14,10,15]),(18,opl 18),(19,opp [0,1,2,3,4,5,12,13,14,15,6,7,8,9,10,11,16]),(0,opl 7)] 0 Proofs.Tryz.f122
noncomputable def af_f122 := theAF o_f122
theorem tr_f122 : o_f122 = some af_f122 := theAF_ok (by kernel_rfl)
noncomputable abbrev o_f123 := tr [] false [(1,opl 12)] 0 Proofs.Tryz.f123
noncomputable def af_f123 := theAF o_f123
theorem tr_f123 : o_f123 = some af_f123 := theAF_ok (by kernel_rfl)
noncomputable abbrev o_f124 := tr [(8,17)] false [] 0 Proofs.Tryz.f124
noncomputable def af_f124 := theAF o_f124
theorem tr_f124 : o_f124 = some af_f124 := theAF_ok (by kernel_rfl)
noncomputable abbrev o_f125 := tr [(8,8),(13,22)] false [] 0 Proofs.Tryz.f125
noncomputable def af_f125 := theAF o_f125
theorem tr_f125 : o_f125 = some af_f125 := theAF_ok (by kernel_rfl)
noncomputable abbrev o_f126 := tr [(4,5)] false [] 0 Proofs.Tryz.f126
noncomputable def af_f126 := theAF o_f126
theorem tr_f126 : o_f126 = some af_f126 := theAF_ok (by kernel_rfl)
noncomputable abbrev o_f127 := tr [(6,6),(11,23),(28,43),(45,47)] false [] 0 Proofs.Tryz.f127
noncomputable def af_f127 := theAF o_f127
theorem tr_f127 : o_f127 = some af_f127 := theAF_ok (by kernel_rfl)
noncomputable abbrev o_f128 := tr [(9,9),(12,12),(30,30),(41,47),(49,55),(57,57),(68,68),(96,100),(121,132),(134,140),(142,144),(153,155),(176,184),(203,207)] false [(3,opp [0,1,2,3,4,5,6,7,8,9,10,11,12,14,13,15,16]),(5,opl 10),(11,opl 10),(13,opl 27),(16,opl 20),(23,opl 8),(25,opp [0,1,2,3,4,5,6,7,8,9,10,11,12,13,15,16,17,14,18,19]),(28,opl 18),(30,opl 11)] 0 Proofs.Tryz.f128
noncomputable def af_f128 := theAF o_f128
theorem tr_f128 : o_f128 = some af_f128 := theAF_ok (by kernel_rfl)
noncomputable abbrev o_f130 := tr [(1,7)] false [] 0 Proofs.Tryz.f130
noncomputable def af_f130 := theAF o_f130
theorem tr_f130 : o_f130 = some af_f130 := theAF_ok (by kernel_rfl)
noncomputable abbrev o_f131 := tr [(3,7)] true [] 130 Proofs.Tryz.f131
noncomputable def af_f131 := theAF o_f131
theorem tr_f131 : o_f131 = some af_f131 := theAF_ok (by kernel_rfl)
noncomputable abbrev o_f132 := tr [(4,24),(26,27),(29,36)] true [] 130 Proofs.Tryz.f132
noncomputable def af_f132 := theAF o_f132
theorem tr_f132 : o_f132 = some af_f132 := theAF_ok (by kernel_rfl)
noncomputable abbrev o_f133 := tr [(5,6),(15,17),(19,25),(27,40),(42,46)] false [(1,opl 10),(8,opl 16)] 0 Proofs.Tryz.f133
noncomputable def af_f133 := theAF o_f133
theorem tr_f133 : o_f133 = some af_f133 := theAF_ok (by kernel_rfl)
noncomputable abbrev o_f134 := tr [(12,19),(21,22),(24,57)] false [] 0 Proofs.Tryz.f134
noncomputable def af_f134 := theAF o_f134
theorem tr_f134 : o_f134 = some af_f134 := theAF_ok (by kernel_rfl)
noncomputable abbrev o_f135 := tr [(12,19),(21,22),(24,57)] false [] 0 Proofs.Tryz.f135
noncomputable def af_f135 := theAF o_f135
theorem tr_f135 : o_f135 = some af_f135 := theAF_ok (by kernel_rfl)
noncomputable abbrev o_f136 := tr [(10,19),(25,27),(44,44)] false [(5,opp [0,1,2,3,4,5,6,7,8,9,10,11,13,14,12,15])] 0 Proofs.Tryz.f136
noncomputable def af_f136 := theAF o_f136
theorem tr_f136 : o_f136 = some af_f136 := theAF_ok (by kernel_rfl)
noncomputable abbrev o_f137 := tr [(5,10),(12,24)] false [] 0 Proofs.Tryz.f137
noncomputable def af_f137 := theAF o_f137
theorem tr_f137 : o_f137 = some af_f137 := theAF_ok (by kernel_rfl)
noncomputable abbrev o_f138 := tr [(5,5),(7,11),(13,18)] false [] 0 Proofs.Tryz.f138
noncomputable def af_f138 := theAF o_f138
theorem tr_f138 : o_f138 = some af_f138 := theAF_ok (by kernel_rfl)
noncomputable abbrev o_f139 := tr [(9,9),(12,18),(20,26),(28,34),(36,42),(44,50),(52,56),(58,62),(64,71),(73,87)] false [] 0 Proofs.Tryz.f139
noncomputable def af_f139 := theAF o_f139
theorem tr_f139 : o_f139 = some af_f139 := theAF_ok (by kernel_rfl)
noncomputable abbrev o_f140 := tr [(11,15),(17,19),(27,27)] false [(4,opl 8)] 0 Proofs.Tryz.f140
noncomputable def af_f140 := theAF o_f140
theorem tr_f140 : o_f140 = some af_f140 := theAF_ok (by kernel_rfl)
noncomputable abbrev o_f141 := tr [(2,5)] false [] 0 Proofs.Tryz.f141
noncomputable def af_f141 := theAF o_f141
theorem tr_f141 : o_f141 = some af_f141 := theAF_ok (by kernel_rfl)
noncomputable abbrev o_f142 := tr [(6,10),(12,13),(23,23)] false [(5,opl 10)] 0 Proofs.Tryz.f142
noncomputable def af_f142 := theAF o_f142
theorem tr_f142 : o_f142 = some af_f142 := theAF_ok (by kernel_rfl)
noncomputable abbrev o_f143 := tr [(11,12),(14,15)] false [(3,opl 24)] 0 Proofs.Tryz.f143
noncomputable def af_f143 := theAF o_f143
theorem tr_f143 : o_f143 = some af_f143 := theAF_ok (by kernel_rfl)
noncomputable abbrev o_f144 := tr [(11,12),(14,15)] false [(3,opl 24)] 0 Proofs.Tryz.f144
noncomputable def af_f144 := theAF o_f144
theorem tr_f144 : o_f144 = some af_f144 := theAF_ok (by kernel_rfl)
noncomputable abbrev o_f145 := tr [(2,5)] false [] 0 Proofs.Tryz.f145
noncomputable def af_f145 := theAF o_f145
theorem tr_f145 : o_f145 = some af_f145 := theAF_ok (by kernel_rfl)
noncomputable abbrev o_f146 := tr [(9,12),(14,15),(25,25)] false [(4,opl 10)] 0 Proofs.Tryz.f146
noncomputable def af_f146 := theAF o_f146
theorem tr_f146 : o_f146 = some af_f146 := theAF_ok (by kernel_rfl)
noncomputable abbrev o_f147 := tr [(2,6)] false [] 0 Proofs.Tryz.f147
noncomputable def af_f147 := theAF o_f147
theorem tr_f147 : o_f147 = some af_f147 := theAF_ok (by kernel_rfl)
noncomputable abbrev o_f148 := tr [(9,15),(20,25),(27,30),(42,46),(48,51),(62,62)] true [(8,opl 15),(16,opp [0,1,2,3,6,7,4,5,8,9])] 130 Proofs.Tryz.f148
noncomputable def af_f148 := theAF o_f148
theorem tr_f148 : o_f148 = some af_f148 := theAF_ok (by kernel_rfl)
noncomputable abbrev o_f149 := tr [(5,14),(16,17),(24,26),(28,33)] false [(5,opl 7)] 0 Proofs.Tryz.f149
noncomputable def af_f149 := theAF o_f149
theorem tr_f149 : o_f149 = some af_f149 := theAF_ok (by kernel_rfl)
noncomputable abbrev o_f150 := tr [(5,15),(17,20),(22,26),(32,36),(42,59),(61,63),(65,67),(69,71),(73,75),(77,83),(85,95),(97,98),(100,107)] false [(8,opl 6),(11,opl 6)] 0 Proofs.Tryz.f150
noncomputable def af_f150 := theAF o_f150
theorem tr_f150 : o_f150 = some af_f150 := theAF_ok (by kernel_rfl)
noncomputable abbrev o_f151 := tr [(8,8),(10,18),(20,24)] false [(6,opl 9)] 0 Proofs.Tryz.f151
noncomputable def af_f151 := theAF o_f151
theorem tr_f151 : o_f151 = some af_f151 := theAF_ok (by kernel_rfl)
noncomputable abbrev o_f152 := tr [(4,12),(14,15),(17,29)] false [] 0 Proofs.Tryz.f152
noncomputable def af_f152 := theAF o_f152
theorem tr_f152 : o_f152 = some af_f152 := theAF_ok (by kernel_rfl)
noncomputable def F : T AF := (.n none (.n none (.n none (.n (some af_f7) (.n none (.n (some af_f31) (.n (some af_f63) (.n (some af_f127) .e .e) .e) (.n (some af_f95) .e .e)) (.n (some af_f47) (.n (some af_f79) (.n (some af_f143) .e .e) .e) (.n (some af_f111) .e .e))) (.n (some af_f23) (.n (some af_f39) (.n (some af_f71) (.n (some af_f135) .e .e) .e) (.n (some af_f103) .e .e)) (.n (some af_f55) (.n (some af_f87) (.n (some af_f151) .e .e) .e) (.n (some af_f119) .e .e)))) (.n none (.n (some af_f19) (.n (some af_f35) (.n (some af_f67) (.n (some af_f131) .e .e) .e) (.n (some af_f99) .e .e)) (.n (some af_f51) (.n (some af_f83) (.n (some af_f147) .e .e) .e) .e)) (.n (some af_f27) (.n (some af_f43) (.n (some af_f75) (.n (some af_f139) .e .e) .e) (.n (some af_f107) .e .e)) (.n (some af_f59) (.n (some af_f91) .e .e) (.n (some af_f123) .e .e))))) (.n none (.n (some af_f9) (.n (some af_f17) (.n (some af_f33) (.n (some af_f65) .e .e) (.n (some af_f97) .e .e)) (.n (some af_f49) (.n (some af_f81) (.n (some af_f145) .e .e) .e) (.n (some af_f113) .e .e))) (.n (some af_f25) (.n (some af_f41) (.n (some af_f73) (.n (some af_f137) .e .e) .e) (.n (some af_f105) .e .e)) (.n (some af_f57) (.n (some af_f89) .e .e) (.n (some af_f121) .e .e)))) (.n (some af_f13) (.n (some af_f21) (.n (some af_f37) (.n (some af_f69) (.n (some af_f133) .e .e) .e) (.n (some af_f101) .e .e)) (.n (some af_f53) (.n (some af_f85) (.n (some af_f149) .e .e) .e) (.n (some af_f117) .e .e))) (.n (some af_f29) (.n (some af_f45) (.n (some af_f77) (.n (some af_f141) .e .e) .e) (.n (some af_f109) .e .e)) (.n (some af_f61) (.n (some af_f93) .e .e) (.n (some af_f125) .e .e)))))) (.n none (.n none (.n none (.n none (.n (some af_f32) (.n (some af_f64) (.n (some af_f128) .e .e) .e) (.n (some af_f96) .e .e)) (.n (some af_f48) (.n (some af_f80) (.n (some af_f144) .e .e) .e) (.n (some af_f112) .e .e))) (.n (some af_f24) (.n (some af_f40) (.n (some af_f72) (.n (some af_f136) .e .e) .e) (.n (some af_f104) .e .e)) (.n (some af_f56) (.n (some af_f88) (.n (some af_f152) .e .e) .e) (.n (some af_f120) .e .e)))) (.n (some af_f12) (.n (some af_f20) (.n (some af_f36) (.n (some af_f68) (.n (some af_f132) .e .e) .e) (.n (some af_f100) .e .e)) (.n (some af_f52) (.n (some af_f84) (.n (some af_f148) .e .e) .e) (.n (some af_f116) .e .e))) (.n (some af_f28) (.n (some af_f44) (.n (some af_f76) (.n (some af_f140) .e .e) .e) (.n (some af_f108) .e .e)) (.n (some af_f60) (.n (some af_f92) .e .e) (.n (some af_f124) .e .e))))) (.n none (.n (some af_f10) (.n none (.n (some af_f34) (.n (some af_f66) (.n (some af_f130) .e .e) .e) (.n (some af_f98) .e .e)) (.n (some af_f50) (.n (some af_f82) (.n (some af_f146) .e .e) .e) (.n (some af_f114) .e .e))) (.n (some af_f26) (.n (some af_f42) (.n (some af_f74) (.n (some af_f138) .e .e) .e) (.n (some af_f106) .e .e)) (.n (some af_f58) (.n (some af_f90) .e .e) (.n (some af_f122) .e .e)))) (.n none (.n none (.n (some af_f38) (.n (some af_f70) (.n (some af_f134) .e .e) .e) (.n (some af_f102) .e .e)) (.n (some af_f54) (.n (some af_f86) (.n (some af_f150) .e .e) .e) (.n (some af_f118) .e .e))) (.n (some af_f30) (.n (some af_f46) (.n (some af_f78) (.n (some af_f142) .e .e) .e) (.n (some af_f110) .e .e)) (.n (some af_f62) (.n (some af_f94) .e .e) (.n (some af_f126) .e .e)))))))
theorem at_f7 : T.get F 7 = some af_f7 := by kernel_rfl
theorem at_f9 : T.get F 9 = some af_f9 := by kernel_rfl
theorem at_f10 : T.get F 10 = some af_f10 := by kernel_rfl
theorem at_f12 : T.get F 12 = some af_f12 := by kernel_rfl
theorem at_f13 : T.get F 13 = some af_f13 := by kernel_rfl
theorem at_f17 : T.get F 17 = some af_f17 := by kernel_rfl
theorem at_f19 : T.get F 19 = some af_f19 := by kernel_rfl
theorem at_f20 : T.get F 20 = some af_f20 := by kernel_rfl
theorem at_f21 : T.get F 21 = some af_f21 := by kernel_rfl
theorem at_f23 : T.get F 23 = some af_f23 := by kernel_rfl
theorem at_f24 : T.get F 24 = some af_f24 := by kernel_rfl
theorem at_f25 : T.get F 25 = some af_f25 := by kernel_rfl
theorem at_f26 : T.get F 26 = some af_f26 := by kernel_rfl
theorem at_f27 : T.get F 27 = some af_f27 := by kernel_rfl
theorem at_f28 : T.get F 28 = some af_f28 := by kernel_rfl
theorem at_f29 : T.get F 29 = some af_f29 := by kernel_rfl
theorem at_f30 : T.get F 30 = some af_f30 := by kernel_rfl
theorem at_f31 : T.get F 31 = some af_f31 := by kernel_rfl
theorem at_f32 : T.get F 32 = some af_f32 := by kernel_rfl
theorem at_f33 : T.get F 33 = some af_f33 := by kernel_rfl
theorem at_f34 : T.get F 34 = some af_f34 := by kernel_rfl
theorem at_f35 : T.get F 35 = some af_f35 := by kernel_rfl
theorem at_f36 : T.get F 36 = some af_f36 := by kernel_rfl
theorem at_f37 : T.get F 37 = some af_f37 := by kernel_rfl
theorem at_f38 : T.get F 38 = some af_f38 := by kernel_rfl
theorem at_f39 : T.get F 39 = some af_f39 := by kernel_rfl
theorem at_f40 : T.get F 40 = some af_f40 := by kernel_rfl
theorem at_f41 : T.get F 41 = some af_f41 := by kernel_rfl
theorem at_f42 : T.get F 42 = some af_f42 := by kernel_rfl
theorem at_f43 : T.get F 43 = some af_f43 := by kernel_rfl
theorem at_f44 : T.get F 44 = some af_f44 := by kernel_rfl
theorem at_f45 : T.get F 45 = some af_f45 := by kernel_rfl
theorem at_f46 : T.get F 46 = some af_f46 := by kernel_rfl
theorem at_f47 : T.get F 47 = some af_f47 := by kernel_rfl
theorem at_f48 : T.get F 48 = some af_f48 := by kernel_rfl
theorem at_f49 : T.get F 49 = some af_f49 := by kernel_rfl
theorem at_f50 : T.get F 50 = some af_f50 := by kernel_rfl
theorem at_f51 : T.get F 51 = some af_f51 := by kernel_rfl
theorem at_f52 : T.get F 52 = some af_f52 := by kernel_rfl
theorem at_f53 : T.get F 53 = some af_f53 := by kernel_rfl
theorem at_f54 : T.get F 54 = some af_f54 := by kernel_rfl
theorem at_f55 : T.get F 55 = some af_f55 := by kernel_rfl
theorem at_f56 : T.get F 56 = some af_f56 := by kernel_rfl
theorem at_f57 : T.get F 57 = some af_f57 := by kernel_rfl
theorem at_f58 : T.get F 58 = some af_f58 := by kernel_rfl
theorem at_f59 : T.get F 59 = some af_f59 := by kernel_rfl
theorem at_f60 : T.get F 60 = some af_f60 := by kernel_rfl
theorem at_f61 : T.get F 61 = some af_f61 := by kernel_rfl
theorem at_f62 : T.get F 62 = some af_f62 := by kernel_rfl
theorem at_f63 : T.get F 63 = some af_f63 := by kernel_rfl
theorem at_f64 : T.get F 64 = some af_f64 := by kernel_rfl
theorem at_f65 : T.get F 65 = some af_f65 := by kernel_rfl
theorem at_f66 : T.get F 66 = some af_f66 := by kernel_rfl
theorem at_f67 : T.get F 67 = some af_f67 := by kernel_rfl
theorem at_f68 : T.get F 68 = some af_f68 := by kernel_rfl
theorem at_f69 : T.get F 69 = some af_f69 := by kernel_rfl
theorem at_f70 : T.get F 70 = some af_f70 := by kernel_rfl
theorem at_f71 : T.get F 71 = some af_f71 := by kernel_rfl
theorem at_f72 : T.get F 72 = some af_f72 := by kernel_rfl
theorem at_f73 : T.get F 73 = some af_f73 := by kernel_rfl
theorem at_f74 : T.get F 74 = some af_f74 := by kernel_rfl
theorem at_f75 : T.get F 75 = some af_f75 := by kernel_rfl
theorem at_f76 : T.get F 76 = some af_f76 := by kernel_rfl
theorem at_f77 : T.get F 77 = some af_f77 := by kernel_rfl
theorem at_f78 : T.get F 78 = some af_f78 := by kernel_rfl
theorem at_f79 : T.get F 79 = some af_f79 := by kernel_rfl
theorem at_f80 : T.get F 80 = some af_f80 := by kernel_rfl
theorem at_f81 : T.get F 81 = some af_f81 := by kernel_rfl
theorem at_f82 : T.get F 82 = some af_f82 := by kernel_rfl
theorem at_f83 : T.get F 83 = some af_f83 := by kernel_rfl
theorem at_f84 : T.get F 84 = some af_f84 := by kernel_rfl
theorem at_f85 : T.get F 85 = some af_f85 := by kernel_rfl
theorem at_f86 : T.get F 86 = some af_f86 := by kernel_rfl
theorem at_f87 : T.get F 87 = some af_f87 := by kernel_rfl
theorem at_f88 : T.get F 88 = some af_f88 := by kernel_rfl
theorem at_f89 : T.get F 89 = some af_f89 := by kernel_rfl
theorem at_f90 : T.get F 90 = some af_f90 := by kernel_rfl
theorem at_f91 : T.get F 91 = some af_f91 := by kernel_rfl
theorem at_f92 : T.get F 92 = some af_f92 := by kernel_rfl
theorem at_f93 : T.get F 93 = some af_f93 := by kernel_rfl
theorem at_f94 : T.get F 94 = some af_f94 := by kernel_rfl
theorem at_f95 : T.get F 95 = some af_f95 := by kernel_rfl
theorem at_f96 : T.get F 96 = some af_f96 := by kernel_rfl
theorem at_f97 : T.get F 97 = some af_f97 := by kernel_rfl
theorem at_f98 : T.get F 98 = some af_f98 := by kernel_rfl
theorem at_f99 : T.get F 99 = some af_f99 := by kernel_rfl
theorem at_f100 : T.get F 100 = some af_f100 := by kernel_rfl
theorem at_f101 : T.get F 101 = some af_f101 := by kernel_rfl
theorem at_f102 : T.get F 102 = some af_f102 := by kernel_rfl
theorem at_f103 : T.get F 103 = some af_f103 := by kernel_rfl
theorem at_f104 : T.get F 104 = some af_f104 := by kernel_rfl
theorem at_f105 : T.get F 105 = some af_f105 := by kernel_rfl
theorem at_f106 : T.get F 106 = some af_f106 := by kernel_rfl
theorem at_f107 : T.get F 107 = some af_f107 := by kernel_rfl
theorem at_f108 : T.get F 108 = some af_f108 := by kernel_rfl
theorem at_f109 : T.get F 109 = some af_f109 := by kernel_rfl
theorem at_f110 : T.get F 110 = some af_f110 := by kernel_rfl
theorem at_f111 : T.get F 111 = some af_f111 := by kernel_rfl
theorem at_f112 : T.get F 112 = some af_f112 := by kernel_rfl
theorem at_f113 : T.get F 113 = some af_f113 := by kernel_rfl
theorem at_f114 : T.get F 114 = some af_f114 := by kernel_rfl
theorem at_f116 : T.get F 116 = some af_f116 := by kernel_rfl
theorem at_f117 : T.get F 117 = some af_f117 := by kernel_rfl
theorem at_f118 : T.get F 118 = some af_f118 := by kernel_rfl
theorem at_f119 : T.get F 119 = some af_f119 := by kernel_rfl
theorem at_f120 : T.get F 120 = some af_f120 := by kernel_rfl
theorem at_f121 : T.get F 121 = some af_f121 := by kernel_rfl
theorem at_f122 : T.get F 122 = some af_f122 := by kernel_rfl
theorem at_f123 : T.get F 123 = some af_f123 := by kernel_rfl
theorem at_f124 : T.get F 124 = some af_f124 := by kernel_rfl
theorem at_f125 : T.get F 125 = some af_f125 := by kernel_rfl
theorem at_f126 : T.get F 126 = some af_f126 := by kernel_rfl
theorem at_f127 : T.get F 127 = some af_f127 := by kernel_rfl
theorem at_f128 : T.get F 128 = some af_f128 := by kernel_rfl
theorem at_f130 : T.get F 130 = some af_f130 := by kernel_rfl
theorem at_f131 : T.get F 131 = some af_f131 := by kernel_rfl
theorem at_f132 : T.get F 132 = some af_f132 := by kernel_rfl
theorem at_f133 : T.get F 133 = some af_f133 := by kernel_rfl
theorem at_f134 : T.get F 134 = some af_f134 := by kernel_rfl
theorem at_f135 : T.get F 135 = some af_f135 := by kernel_rfl
theorem at_f136 : T.get F 136 = some af_f136 := by kernel_rfl
theorem at_f137 : T.get F 137 = some af_f137 := by kernel_rfl
theorem at_f138 : T.get F 138 = some af_f138 := by kernel_rfl
theorem at_f139 : T.get F 139 = some af_f139 := by kernel_rfl
theorem at_f140 : T.get F 140 = some af_f140 := by kernel_rfl
theorem at_f141 : T.get F 141 = some af_f141 := by kernel_rfl
theorem at_f142 : T.get F 142 = some af_f142 := by kernel_rfl
theorem at_f143 : T.get F 143 = some af_f143 := by kernel_rfl
theorem at_f144 : T.get F 144 = some af_f144 := by kernel_rfl
theorem at_f145 : T.get F 145 = some af_f145 := by kernel_rfl
theorem at_f146 : T.get F 146 = some af_f146 := by kernel_rfl
theorem at_f147 : T.get F 147 = some af_f147 := by kernel_rfl
theorem at_f148 : T.get F 148 = some af_f148 := by kernel_rfl
theorem at_f149 : T.get F 149 = some af_f149 := by kernel_rfl
theorem at_f150 : T.get F 150 = some af_f150 := by kernel_rfl
theorem at_f151 : T.get F 151 = some af_f151 := by kernel_rfl
theorem at_f152 : T.get F 152 = some af_f152 := by kernel_rfl
end Go.R3

/- All functions are right. -/
namespace Go.R3
open Go.Eng
set_option maxRecDepth 100000
abbrev Fg (n : Nat) (a : AF) : Prop := FnGood Go.Proofs.Tryz.prog F n a
theorem good_f7 : Fg 7 af_f7 := .one Proofs.Tryz.func7 (by kernel_rfl) tr_f7 (by kernel_rfl) (by kernel_rfl)
theorem good_f9 : Fg 9 af_f9 := .one Proofs.Tryz.func9 (by kernel_rfl) tr_f9 (by kernel_rfl) (by kernel_rfl)
theorem good_f10 : Fg 10 af_f10 := .one Proofs.Tryz.func10 (by kernel_rfl) tr_f10 (by kernel_rfl) (by kernel_rfl)
theorem good_f12 : Fg 12 af_f12 := .one Proofs.Tryz.func12 (by kernel_rfl) tr_f12 (by kernel_rfl) (by kernel_rfl)
theorem good_f13 : Fg 13 af_f13 := .one Proofs.Tryz.func13 (by kernel_rfl) tr_f13 (by kernel_rfl) (by kernel_rfl)
theorem good_f17 : Fg 17 af_f17 := .one Proofs.Tryz.func17 (by kernel_rfl) tr_f17 (by kernel_rfl) (by kernel_rfl)
theorem good_f19 : Fg 19 af_f19 := .one Proofs.Tryz.func19 (by kernel_rfl) tr_f19 (by kernel_rfl) (by kernel_rfl)
theorem good_f20 : Fg 20 af_f20 := .one Proofs.Tryz.func20 (by kernel_rfl) tr_f20 (by kernel_rfl) (by kernel_rfl)
theorem good_f21 : Fg 21 af_f21 := .one Proofs.Tryz.func21 (by kernel_rfl) tr_f21 (by kernel_rfl) (by kernel_rfl)
theorem good_f23 : Fg 23 af_f23 := .one Proofs.Tryz.func23 (by kernel_rfl) tr_f23 (by kernel_rfl) (by kernel_rfl)
theorem good_f24 : Fg 24 af_f24 := .one Proofs.Tryz.func24 (by kernel_rfl) tr_f24 (by kernel_rfl) (by kernel_rfl)
theorem good_f25 : Fg 25 af_f25 := .one Proofs.Tryz.func25 (by kernel_rfl) tr_f25 (by kernel_rfl) (by kernel_rfl)
theorem good_f26 : Fg 26 af_f26 := .one Proofs.Tryz.func26 (by kernel_rfl) tr_f26 (by kernel_rfl) (by kernel_rfl)
theorem good_f27 : Fg 27 af_f27 := .one Proofs.Tryz.func27 (by kernel_rfl) tr_f27 (by kernel_rfl) (by kernel_rfl)
theorem good_f28 : Fg 28 af_f28 := .one Proofs.Tryz.func28 (by kernel_rfl) tr_f28 (by kernel_rfl) (by kernel_rfl)
theorem good_f29 : Fg 29 af_f29 := .one Proofs.Tryz.func29 (by kernel_rfl) tr_f29 (by kernel_rfl) (by kernel_rfl)
theorem good_f30 : Fg 30 af_f30 := .one Proofs.Tryz.func30 (by kernel_rfl) tr_f30 (by kernel_rfl) (by kernel_rfl)
theorem good_f31 : Fg 31 af_f31 := .one Proofs.Tryz.func31 (by kernel_rfl) tr_f31 (by kernel_rfl) (by kernel_rfl)
theorem good_f32 : Fg 32 af_f32 := .one Proofs.Tryz.func32 (by kernel_rfl) tr_f32 (by kernel_rfl) (by kernel_rfl)
theorem good_f33 : Fg 33 af_f33 := .one Proofs.Tryz.func33 (by kernel_rfl) tr_f33 (by kernel_rfl) (by kernel_rfl)
theorem good_f34 : Fg 34 af_f34 := .one Proofs.Tryz.func34 (by kernel_rfl) tr_f34 (by kernel_rfl) (by kernel_rfl)
theorem good_f35 : Fg 35 af_f35 := .one Proofs.Tryz.func35 (by kernel_rfl) tr_f35 (by kernel_rfl) (by kernel_rfl)
theorem good_f36 : Fg 36 af_f36 := .two Proofs.Tryz.func36 (by kernel_rfl) tr_f36 (by kernel_rfl) at_f57 (by kernel_rfl)
theorem good_f37 : Fg 37 af_f37 := .one Proofs.Tryz.func37 (by kernel_rfl) tr_f37 (by kernel_rfl) (by kernel_rfl)
theorem good_f38 : Fg 38 af_f38 := .one Proofs.Tryz.func38 (by kernel_rfl) tr_f38 (by kernel_rfl) (by kernel_rfl)
theorem good_f39 : Fg 39 af_f39 := .one Proofs.Tryz.func39 (by kernel_rfl) tr_f39 (by kernel_rfl) (by kernel_rfl)
theorem good_f40 : Fg 40 af_f40 := .one Proofs.Tryz.func40 (by kernel_rfl) tr_f40 (by kernel_rfl) (by kernel_rfl)
theorem good_f41 : Fg 41 af_f41 := .one Proofs.Tryz.func41 (by kernel_rfl) tr_f41 (by kernel_rfl) (by kernel_rfl)
theorem good_f42 : Fg 42 af_f42 := .one Proofs.Tryz.func42 (by kernel_rfl) tr_f42 (by kernel_rfl) (by kernel_rfl)
theorem good_f43 : Fg 43 af_f43 := .one Proofs.Tryz.func43 (by kernel_rfl) tr_f43 (by kernel_rfl) (by kernel_rfl)
theorem good_f44 : Fg 44 af_f44 := .one Proofs.Tryz.func44 (by kernel_rfl) tr_f44 (by kernel_rfl) (by kernel_rfl)
theorem good_f45 : Fg 45 af_f45 := .one Proofs.Tryz.func45 (by kernel_rfl) tr_f45 (by kernel_rfl) (by kernel_rfl)
theorem good_f46 : Fg 46 af_f46 := .one Proofs.Tryz.func46 (by kernel_rfl) tr_f46 (by kernel_rfl) (by kernel_rfl)
theorem good_f47 : Fg 47 af_f47 := .one Proofs.Tryz.func47 (by kernel_rfl) tr_f47 (by kernel_rfl) (by kernel_rfl)
theorem good_f48 : Fg 48 af_f48 := .one Proofs.Tryz.func48 (by kernel_rfl) tr_f48 (by kernel_rfl) (by kernel_rfl)
theorem good_f49 : Fg 49 af_f49 := .one Proofs.Tryz.func49 (by kernel_rfl) tr_f49 (by kernel_rfl) (by kernel_rfl)
theorem good_f50 : Fg 50 af_f50 := .one Proofs.Tryz.func50 (by kernel_rfl) tr_f50 (by kernel_rfl) (by kernel_rfl)
theorem good_f51 : Fg 51 af_f51 := .one Proofs.Tryz.func51 (by kernel_rfl) tr_f51 (by kernel_rfl) (by kernel_rfl)
theorem good_f52 : Fg 52 af_f52 := .one Proofs.Tryz.func52 (by kernel_rfl) tr_f52 (by kernel_rfl) (by kernel_rfl)
theorem good_f53 : Fg 53 af_f53 := .one Proofs.Tryz.func53 (by kernel_rfl) tr_f53 (by kernel_rfl) (by kernel_rfl)
theorem good_f54 : Fg 54 af_f54 := .one Proofs.Tryz.func54 (by kernel_rfl) tr_f54 (by kernel_rfl) (by kernel_rfl)
theorem good_f55 : Fg 55 af_f55 := .one Proofs.Tryz.func55 (by kernel_rfl) tr_f55 (by kernel_rfl) (by kernel_rfl)
theorem good_f56 : Fg 56 af_f56 := .one Proofs.Tryz.func56 (by kernel_rfl) tr_f56 (by kernel_rfl) (by kernel_rfl)
theorem good_f57 : Fg 57 af_f57 := .one Proofs.Tryz.func57 (by kernel_rfl) tr_f57 (by kernel_rfl) (by kernel_rfl)
theorem good_f58 : Fg 58 af_f58 := .one Proofs.Tryz.func58 (by kernel_rfl) tr_f58 (by kernel_rfl) (by kernel_rfl)
theorem good_f59 : Fg 59 af_f59 := .one Proofs.Tryz.func59 (by kernel_rfl) tr_f59 (by kernel_rfl) (by kernel_rfl)
theorem good_f60 : Fg 60 af_f60 := .one Proofs.Tryz.func60 (by kernel_rfl) tr_f60 (by kernel_rfl) (by kernel_rfl)
theorem good_f61 : Fg 61 af_f61 := .one Proofs.Tryz.func61 (by kernel_rfl) tr_f61 (by kernel_rfl) (by kernel_rfl)
theorem good_f62 : Fg 62 af_f62 := .one Proofs.Tryz.func62 (by kernel_rfl) tr_f62 (by kernel_rfl) (by kernel_rfl)
theorem good_f63 : Fg 63 af_f63 := .one Proofs.Tryz.func63 (by kernel_rfl) tr_f63 (by kernel_rfl) (by kernel_rfl)
theorem good_f64 : Fg 64 af_f64 := .one Proofs.Tryz.func64 (by kernel_rfl) tr_f64 (by kernel_rfl) (by kernel_rfl)
theorem good_f65 : Fg 65 af_f65 := .one Proofs.Tryz.func65 (by kernel_rfl) tr_f65 (by kernel_rfl) (by kernel_rfl)
theorem good_f66 : Fg 66 af_f66 := .one Proofs.Tryz.func66 (by kernel_rfl) tr_f66 (by kernel_rfl) (by kernel_rfl)
theorem good_f67 : Fg 67 af_f67 := .one Proofs.Tryz.func67 (by kernel_rfl) tr_f67 (by kernel_rfl) (by kernel_rfl)
theorem good_f68 : Fg 68 af_f68 := .one Proofs.Tryz.func68 (by kernel_rfl) tr_f68 (by kernel_rfl) (by kernel_rfl)
theorem good_f69 : Fg 69 af_f69 := .one Proofs.Tryz.func69 (by kernel_rfl) tr_f69 (by kernel_rfl) (by kernel_rfl)
theorem good_f70 : Fg 70 af_f70 := .one Proofs.Tryz.func70 (by kernel_rfl) tr_f70 (by kernel_rfl) (by kernel_rfl)
theorem good_f71 : Fg 71 af_f71 := .one Proofs.Tryz.func71 (by kernel_rfl) tr_f71 (by kernel_rfl) (by kernel_rfl)
theorem good_f72 : Fg 72 af_f72 := .one Proofs.Tryz.func72 (by kernel_rfl) tr_f72 (by kernel_rfl) (by kernel_rfl)
theorem good_f73 : Fg 73 af_f73 := .one Proofs.Tryz.func73 (by kernel_rfl) tr_f73 (by kernel_rfl) (by kernel_rfl)
theorem good_f74 : Fg 74 af_f74 := .one Proofs.Tryz.func74 (by kernel_rfl) tr_f74 (by kernel_rfl) (by kernel_rfl)
theorem good_f75 : Fg 75 af_f75 := .one Proofs.Tryz.func75 (by kernel_rfl) tr_f75 (by kernel_rfl) (by kernel_rfl)
theorem good_f76 : Fg 76 af_f76 := .one Proofs.Tryz.func76 (by kernel_rfl) tr_f76 (by kernel_rfl) (by kernel_rfl)
theorem good_f77 : Fg 77 af_f77 := .one Proofs.Tryz.func77 (by kernel_rfl) tr_f77 (by kernel_rfl) (by kernel_rfl)
theorem good_f78 : Fg 78 af_f78 := .one Proofs.Tryz.func78 (by kernel_rfl) tr_f78 (by kernel_rfl) (by kernel_rfl)
theorem good_f79 : Fg 79 af_f79 := .one Proofs.Tryz.func79 (by kernel_rfl) tr_f79 (by kernel_rfl) (by kernel_rfl)
theorem good_f80 : Fg 80 af_f80 := .one Proofs.Tryz.func80 (by kernel_rfl) tr_f80 (by kernel_rfl) (by kernel_rfl)
theorem good_f81 : Fg 81 af_f81 := .one Proofs.Tryz.func81 (by kernel_rfl) tr_f81 (by kernel_rfl) (by kernel_rfl)
theorem good_f82 : Fg 82 af_f82 := .one Proofs.Tryz.func82 (by kernel_rfl) tr_f82 (by kernel_rfl) (by kernel_rfl)
theorem good_f83 : Fg 83 af_f83 := .one Proofs.Tryz.func83 (by kernel_rfl) tr_f83 (by kernel_rfl) (by kernel_rfl)
theorem good_f84 : Fg 84 af_f84 := .one Proofs.Tryz.func84 (by kernel_rfl) tr_f84 (by kernel_rfl) (by kernel_rfl)
theorem good_f85 : Fg 85 af_f85 := .one Proofs.Tryz.func85 (by kernel_rfl) tr_f85 (by kernel_rfl) (by kernel_rfl)
theorem good_f86 : Fg 86 af_f86 := .one Proofs.Tryz.func86 (by kernel_rfl) tr_f86 (by kernel_rfl) (by kernel_rfl)
theorem good_f87 : Fg 87 af_f87 := .one Proofs.Tryz.func87 (by kernel_rfl) tr_f87 (by kernel_rfl) (by kernel_rfl)
theorem good_f88 : Fg 88 af_f88 := .one Proofs.Tryz.func88 (by kernel_rfl) tr_f88 (by kernel_rfl) (by kernel_rfl)
theorem good_f89 : Fg 89 af_f89 := .one Proofs.Tryz.func89 (by kernel_rfl) tr_f89 (by kernel_rfl) (by kernel_rfl)
theorem good_f90 : Fg 90 af_f90 := .one Proofs.Tryz.func90 (by kernel_rfl) tr_f90 (by kernel_rfl) (by kernel_rfl)
theorem good_f91 : Fg 91 af_f91 := .one Proofs.Tryz.func91 (by kernel_rfl) tr_f91 (by kernel_rfl) (by kernel_rfl)
theorem good_f92 : Fg 92 af_f92 := .one Proofs.Tryz.func92 (by kernel_rfl) tr_f92 (by kernel_rfl) (by kernel_rfl)
theorem good_f93 : Fg 93 af_f93 := .one Proofs.Tryz.func93 (by kernel_rfl) tr_f93 (by kernel_rfl) (by kernel_rfl)
theorem good_f94 : Fg 94 af_f94 := .one Proofs.Tryz.func94 (by kernel_rfl) tr_f94 (by kernel_rfl) (by kernel_rfl)
theorem good_f95 : Fg 95 af_f95 := .one Proofs.Tryz.func95 (by kernel_rfl) tr_f95 (by kernel_rfl) (by kernel_rfl)
theorem good_f96 : Fg 96 af_f96 := .one Proofs.Tryz.func96 (by kernel_rfl) tr_f96 (by kernel_rfl) (by kernel_rfl)
theorem good_f97 : Fg 97 af_f97 := .two Proofs.Tryz.func97 (by kernel_rfl) tr_f97 (by kernel_rfl) at_f130 (by kernel_rfl)
theorem good_f98 : Fg 98 af_f98 := .one Proofs.Tryz.func98 (by kernel_rfl) tr_f98 (by kernel_rfl) (by kernel_rfl)
theorem good_f99 : Fg 99 af_f99 := .one Proofs.Tryz.func99 (by kernel_rfl) tr_f99 (by kernel_rfl) (by kernel_rfl)
theorem good_f100 : Fg 100 af_f100 := .one Proofs.Tryz.func100 (by kernel_rfl) tr_f100 (by kernel_rfl) (by kernel_rfl)
theorem good_f101 : Fg 101 af_f101 := .one Proofs.Tryz.func101 (by kernel_rfl) tr_f101 (by kernel_rfl) (by kernel_rfl)
theorem good_f102 : Fg 102 af_f102 := .one Proofs.Tryz.func102 (by kernel_rfl) tr_f102 (by kernel_rfl) (by kernel_rfl)
theorem good_f103 : Fg 103 af_f103 := .one Proofs.Tryz.func103 (by kernel_rfl) tr_f103 (by kernel_rfl) (by kernel_rfl)
theorem good_f104 : Fg 104 af_f104 := .one Proofs.Tryz.func104 (by kernel_rfl) tr_f104 (by kernel_rfl) (by kernel_rfl)
theorem good_f105 : Fg 105 af_f105 := .one Proofs.Tryz.func105 (by kernel_rfl) tr_f105 (by kernel_rfl) (by kernel_rfl)
theorem good_f106 : Fg 106 af_f106 := .one Proofs.Tryz.func106 (by kernel_rfl) tr_f106 (by kernel_rfl) (by kernel_rfl)
theorem good_f107 : Fg 107 af_f107 := .one Proofs.Tryz.func107 (by kernel_rfl) tr_f107 (by kernel_rfl) (by kernel_rfl)
theorem good_f108 : Fg 108 af_f108 := .one Proofs.Tryz.func108 (by kernel_rfl) tr_f108 (by kernel_rfl) (by kernel_rfl)
theorem good_f109 : Fg 109 af_f109 := .one Proofs.Tryz.func109 (by kernel_rfl) tr_f109 (by kernel_rfl) (by kernel_rfl)
theorem good_f110 : Fg 110 af_f110 := .one Proofs.Tryz.func110 (by kernel_rfl) tr_f110 (by kernel_rfl) (by kernel_rfl)
theorem good_f111 : Fg 111 af_f111 := .one Proofs.Tryz.func111 (by kernel_rfl) tr_f111 (by kernel_rfl) (by kernel_rfl)
theorem good_f112 : Fg 112 af_f112 := .one Proofs.Tryz.func112 (by kernel_rfl) tr_f112 (by kernel_rfl) (by kernel_rfl)
theorem good_f113 : Fg 113 af_f113 := .one Proofs.Tryz.func113 (by kernel_rfl) tr_f113 (by kernel_rfl) (by kernel_rfl)
theorem good_f114 : Fg 114 af_f114 := .one Proofs.Tryz.func114 (by kernel_rfl) tr_f114 (by kernel_rfl) (by kernel_rfl)
theorem good_f116 : Fg 116 af_f116 := .one Proofs.Tryz.func116 (by kernel_rfl) tr_f116 (by kernel_rfl) (by kernel_rfl)
theorem good_f117 : Fg 117 af_f117 := .one Proofs.Tryz.func117 (by kernel_rfl) tr_f117 (by kernel_rfl) (by kernel_rfl)
theorem good_f118 : Fg 118 af_f118 := .one Proofs.Tryz.func118 (by kernel_rfl) tr_f118 (by kernel_rfl) (by kernel_rfl)
theorem good_f119 : Fg 119 af_f119 := .one Proofs.Tryz.func119 (by kernel_rfl) tr_f119 (by kernel_rfl) (by kernel_rfl)
theorem good_f120 : Fg 120 af_f120 := .one Proofs.Tryz.func120 (by kernel_rfl) tr_f120 (by kernel_rfl) (by kernel_rfl)
theorem good_f121 : Fg 121 af_f121 := .one Proofs.Tryz.func121 (by kernel_rfl) tr_f121 (by kernel_rfl) (by kernel_rfl)
theorem good_f122 : Fg 122 af_f122 := .one Proofs.Tryz.func122 (by kernel_rfl) tr_f122 (by kernel_rfl) (by kernel_rfl)
theorem good_f123 : Fg 123 af_f123 := .one Proofs.Tryz.func123 (by kernel_rfl) tr_f123 (by kernel_rfl) (by kernel_rfl)
theorem good_f124 : Fg 124 af_f124 := .one Proofs.Tryz.func124 (by kernel_rfl) tr_f124 (by kernel_rfl) (by kernel_rfl)
theorem good_f125 : Fg 125 af_f125 := .one Proofs.Tryz.func125 (by kernel_rfl) tr_f125 (by kernel_rfl) (by kernel_rfl)
theorem good_f126 : Fg 126 af_f126 := .one Proofs.Tryz.func126 (by kernel_rfl) tr_f126 (by kernel_rfl) (by kernel_rfl)
theorem good_f127 : Fg 127 af_f127 := .one Proofs.Tryz.func127 (by kernel_rfl) tr_f127 (by kernel_rfl) (by kernel_rfl)
theorem good_f128 : Fg 128 af_f128 := .one Proofs.Tryz.func128 (by kernel_rfl) tr_f128 (by kernel_rfl) (by kernel_rfl)
theorem good_f130 : Fg 130 af_f130 := .one Proofs.Tryz.func130 (by kernel_rfl) tr_f130 (by kernel_rfl) (by kernel_rfl)
theorem good_f131 : Fg 131 af_f131 := .two Proofs.Tryz.func131 (by kernel_rfl) tr_f131 (by kernel_rfl) at_f130 (by kernel_rfl)
theorem good_f132 : Fg 132 af_f132 := .two Proofs.Tryz.func132 (by kernel_rfl) tr_f132 (by kernel_rfl) at_f130 (by kernel_rfl)
theorem good_f133 : Fg 133 af_f133 := .one Proofs.Tryz.func133 (by kernel_rfl) tr_f133 (by kernel_rfl) (by kernel_rfl)
theorem good_f134 : Fg 134 af_f134 := .one Proofs.Tryz.func134 (by kernel_rfl) tr_f134 (by kernel_rfl) (by kernel_rfl)
theorem good_f135 : Fg 135 af_f135 := .one Proofs.Tryz.func135 (by kernel_rfl) tr_f135 (by kernel_rfl) (by kernel_rfl)
theorem good_f136 : Fg 136 af_f136 := .one Proofs.Tryz.func136 (by kernel_rfl) tr_f136 (by kernel_rfl) (by kernel_rfl)
theorem good_f137 : Fg 137 af_f137 := .one Proofs.Tryz.func137 (by kernel_rfl) tr_f137 (by kernel_rfl) (by kernel_rfl)
theorem good_f138 : Fg 138 af_f138 := .one Proofs.Tryz.func138 (by kernel_rfl) tr_f138 (by kernel_rfl) (by kernel_rfl)
theorem good_f139 : Fg 139 af_f139 := .one Proofs.Tryz.func139 (by kernel_rfl) tr_f139 (by kernel_rfl) (by kernel_rfl)
theorem good_f140 : Fg 140 af_f140 := .one Proofs.Tryz.func140 (by kernel_rfl) tr_f140 (by kernel_rfl) (by kernel_rfl)
theorem good_f141 : Fg 141 af_f141 := .one Proofs.Tryz.func141 (by kernel_rfl) tr_f141 (by kernel_rfl) (by kernel_rfl)
theorem good_f142 : Fg 142 af_f142 := .one Proofs.Tryz.func142 (by kernel_rfl) tr_f142 (by kernel_rfl) (by kernel_rfl)
theorem good_f143 : Fg 143 af_f143 := .one Proofs.Tryz.func143 (by kernel_rfl) tr_f143 (by kernel_rfl) (by kernel_rfl)
theorem good_f144 : Fg 144 af_f144 := .one Proofs.Tryz.func144 (by kernel_rfl) tr_f144 (by kernel_rfl) (by kernel_rfl)
theorem good_f145 : Fg 145 af_f145 := .one Proofs.Tryz.func145 (by kernel_rfl) tr_f145 (by kernel_rfl) (by kernel_rfl)
theorem good_f146 : Fg 146 af_f146 := .one Proofs.Tryz.func146 (by kernel_rfl) tr_f146 (by kernel_rfl) (by kernel_rfl)
theorem good_f147 : Fg 147 af_f147 := .one Proofs.Tryz.func147 (by kernel_rfl) tr_f147 (by kernel_rfl) (by kernel_rfl)
theorem good_f148 : Fg 148 af_f148 := .two Proofs.Tryz.func148 (by kernel_rfl) tr_f148 (by kernel_rfl) at_f130 (by kernel_rfl)
theorem good_f149 : Fg 149 af_f149 := .one Proofs.Tryz.func149 (by kernel_rfl) tr_f149 (by kernel_rfl) (by kernel_rfl)
theorem good_f150 : Fg 150 af_f150 := .one Proofs.Tryz.func150 (by kernel_rfl) tr_f150 (by kernel_rfl) (by kernel_rfl)
theorem good_f151 : Fg 151 af_f151 := .one Proofs.Tryz.func151 (by kernel_rfl) tr_f151 (by kernel_rfl) (by kernel_rfl)
theorem good_f152 : Fg 152 af_f152 := .one Proofs.Tryz.func152 (by kernel_rfl) tr_f152 (by kernel_rfl) (by kernel_rfl)
theorem all_good : T.All (fun p af => FnGood Go.Proofs.Tryz.prog F p.key af) F := (.n0 (.n0 (.n0 (.n1 good_f7 (.n0 (.n1 good_f31 (.n1 good_f63 (.n1 good_f127 .e .e) .e) (.n1 good_f95 .e .e)) (.n1 good_f47 (.n1 good_f79 (.n1 good_f143 .e .e) .e) (.n1 good_f111 .e .e))) (.n1 good_f23 (.n1 good_f39 (.n1 good_f71 (.n1 good_f135 .e .e) .e) (.n1 good_f103 .e .e)) (.n1 good_f55 (.n1 good_f87 (.n1 good_f151 .e .e) .e) (.n1 good_f119 .e .e)))) (.n0 (.n1 good_f19 (.n1 good_f35 (.n1 good_f67 (.n1 good_f131 .e .e) .e) (.n1 good_f99 .e .e)) (.n1 good_f51 (.n1 good_f83 (.n1 good_f147 .e .e) .e) .e)) (.n1 good_f27 (.n1 good_f43 (.n1 good_f75 (.n1 good_f139 .e .e) .e) (.n1 good_f107 .e .e)) (.n1 good_f59 (.n1 good_f91 .e .e) (.n1 good_f123 .e .e))))) (.n0 (.n1 good_f9 (.n1 good_f17 (.n1 good_f33 (.n1 good_f65 .e .e) (.n1 good_f97 .e .e)) (.n1 good_f49 (.n1 good_f81 (.n1 good_f145 .e .e) .e) (.n1 good_f113 .e .e))) (.n1 good_f25 (.n1 good_f41 (.n1 good_f73 (.n1 good_f137 .e .e) .e) (.n1 good_f105 .e .e)) (.n1 good_f57 (.n1 good_f89 .e .e) (.n1 good_f121 .e .e)))) (.n1 good_f13 (.n1 good_f21 (.n1 good_f37 (.n1 good_f69 (.n1 good_f133 .e .e) .e) (.n1 good_f101 .e .e)) (.n1 good_f53 (.n1 good_f85 (.n1 good_f149 .e .e) .e) (.n1 good_f117 .e .e))) (.n1 good_f29 (.n1 good_f45 (.n1 good_f77 (.n1 good_f141 .e .e) .e) (.n1 good_f109 .e .e)) (.n1 good_f61 (.n1 good_f93 .e .e) (.n1 good_f125 .e .e)))))) (.n0 (.n0 (.n0 (.n0 (.n1 good_f32 (.n1 good_f64 (.n1 good_f128 .e .e) .e) (.n1 good_f96 .e .e)) (.n1 good_f48 (.n1 good_f80 (.n1 good_f144 .e .e) .e) (.n1 good_f112 .e .e))) (.n1 good_f24 (.n1 good_f40 (.n1 good_f72 (.n1 good_f136 .e .e) .e) (.n1 good_f104 .e .e)) (.n1 good_f56 (.n1 good_f88 (.n1 good_f152 .e .e) .e) (.n1 good_f120 .e .e)))) (.n1 good_f12 (.n1 good_f20 (.n1 good_f36 (.n1 good_f68 (.n1 good_f132 .e .e) .e) (.n1 good_f100 .e .e)) (.n1 good_f52 (.n1 good_f84 (.n1 good_f148 .e .e) .e) (.n1 good_f116 .e .e))) (.n1 good_f28 (.n1 good_f44 (.n1 good_f76 (.n1 good_f140 .e .e) .e) (.n1 good_f108 .e .e)) (.n1 good_f60 (.n1 good_f92 .e .e) (.n1 good_f124 .e .e))))) (.n0 (.n1 good_f10 (.n0 (.n1 good_f34 (.n1 good_f66 (.n1 good_f130 .e .e) .e) (.n1 good_f98 .e .e)) (.n1 good_f50 (.n1 good_f82 (.n1 good_f146 .e .e) .e) (.n1 good_f114 .e .e))) (.n1 good_f26 (.n1 good_f42 (.n1 good_f74 (.n1 good_f138 .e .e) .e) (.n1 good_f106 .e .e)) (.n1 good_f58 (.n1 good_f90 .e .e) (.n1 good_f122 .e .e)))) (.n0 (.n0 (.n1 good_f38 (.n1 good_f70 (.n1 good_f134 .e .e) .e) (.n1 good_f102 .e .e)) (.n1 good_f54 (.n1 good_f86 (.n1 good_f150 .e .e) .e) (.n1 good_f118 .e .e))) (.n1 good_f30 (.n1 good_f46 (.n1 good_f78 (.n1 good_f142 .e .e) .e) (.n1 good_f110 .e .e)) (.n1 good_f62 (.n1 good_f94 .e .e) (.n1 good_f126 .e .e)))))))
theorem fns_ok : FnsOk Go.Proofs.Tryz.prog F := .of_all (by kernel_rfl) all_good
end Go.R3

namespace Go.R3
open Go.Eng
def tab : LV := [.str 2 15677, .str 2 15649, .str 2 15676, .str 2 9766, .str 2 31868, .str 1 43, .str 1 45, .str 1 42, .str 1 47, .str 1 37, .str 1 60, .str 1 61, .str 1 33, .str 1 40, .str 1 41, .str 1 91, .str 1 93, .str 1 123, .str 1 125, .str 1 59, .str 1 44, .str 1 46]
noncomputable def G0 : Roms := tabK 0 22 tab
end Go.R3

