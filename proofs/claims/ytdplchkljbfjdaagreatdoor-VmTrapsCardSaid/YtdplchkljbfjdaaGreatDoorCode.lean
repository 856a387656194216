/- Part of a proof: texts RVNm RVTr RVOk RVG of the engine and what is proved with it; nothing is assumed. -/
import Derived.Test.YtdplchkljbfjdaaGreatDoorEngA
import Derived.Test.YtdplchkljbfjdaaGreatDoorEngF
import Derived.Test.YtdplchkljbfjdaaGreatDoorProg
import Derived.Test.YtdplchkljbfjdaaGreatDoorEngE
set_option linter.unusedVariables false
set_option linter.unusedSimpArgs false
/- Registers. -/
namespace Go.R5
open Go.Eng
def q0 : P2 := .h
def q1 : P2 := .z q0
def q2 : P2 := .o q0
def q3 : P2 := .z q1
def q4 : P2 := .o q1
def q5 : P2 := .z q2
def q6 : P2 := .o q2
def q7 : P2 := .z q3
def q8 : P2 := .o q3
def q9 : P2 := .z q4
def q10 : P2 := .o q4
def q11 : P2 := .z q5
def q12 : P2 := .o q5
def q13 : P2 := .z q6
def q14 : P2 := .o q6
def q15 : P2 := .z q7
def q16 : P2 := .o q7
def q17 : P2 := .z q8
def q18 : P2 := .o q8
def q19 : P2 := .z q9
def q20 : P2 := .o q9
def q21 : P2 := .z q10
def q22 : P2 := .o q10
def q23 : P2 := .z q11
def q24 : P2 := .o q11
def q25 : P2 := .z q12
def q26 : P2 := .o q12
def q27 : P2 := .z q13
def q28 : P2 := .o q13
def q29 : P2 := .z q14
def q30 : P2 := .o q14
def q31 : P2 := .z q15
def q32 : P2 := .o q15
def q33 : P2 := .z q16
def q34 : P2 := .o q16
def q35 : P2 := .z q17
def q36 : P2 := .o q17
def q37 : P2 := .z q18
def q38 : P2 := .o q18
def q39 : P2 := .z q19
def q40 : P2 := .o q19
def q41 : P2 := .z q20
def q42 : P2 := .o q20
def q43 : P2 := .z q21
def q44 : P2 := .o q21
def q45 : P2 := .z q22
def q46 : P2 := .o q22
def q47 : P2 := .z q23
def q48 : P2 := .o q23
def q49 : P2 := .z q24
def q50 : P2 := .o q24
def q51 : P2 := .z q25
def q52 : P2 := .o q25
def q53 : P2 := .z q26
def q54 : P2 := .o q26
def q55 : P2 := .z q27
def q56 : P2 := .o q27
def q57 : P2 := .z q28
def q58 : P2 := .o q28
def q59 : P2 := .z q29
def q60 : P2 := .o q29
def q61 : P2 := .z q30
def q62 : P2 := .o q30
def q63 : P2 := .z q31
def q64 : P2 := .o q31
def q65 : P2 := .z q32
def q66 : P2 := .o q32
def q67 : P2 := .z q33
def q68 : P2 := .o q33
def q69 : P2 := .z q34
def q70 : P2 := .o q34
def q71 : P2 := .z q35
def q72 : P2 := .o q35
def q73 : P2 := .z q36
def q74 : P2 := .o q36
def q75 : P2 := .z q37
def q76 : P2 := .o q37
def q77 : P2 := .z q38
def q78 : P2 := .o q38
def q79 : P2 := .z q39
def q80 : P2 := .o q39
def q81 : P2 := .z q40
def q82 : P2 := .o q40
def q83 : P2 := .z q41
def q84 : P2 := .o q41
def q85 : P2 := .z q42
def q86 : P2 := .o q42
def q87 : P2 := .z q43
def q88 : P2 := .o q43
def q89 : P2 := .z q44
def q90 : P2 := .o q44
def q91 : P2 := .z q45
def q92 : P2 := .o q45
def q93 : P2 := .z q46
def q94 : P2 := .o q46
def q95 : P2 := .z q47
def q96 : P2 := .o q47
def q97 : P2 := .z q48
def q98 : P2 := .o q48
def q99 : P2 := .z q49
def q100 : P2 := .o q49
def q101 : P2 := .z q50
def q102 : P2 := .o q50
def q103 : P2 := .z q51
def q104 : P2 := .o q51
def q105 : P2 := .z q52
def q106 : P2 := .o q52
def q107 : P2 := .z q53
def q108 : P2 := .o q53
def q109 : P2 := .z q54
def q110 : P2 := .o q54
def q111 : P2 := .z q55
def q112 : P2 := .o q55
def q113 : P2 := .z q56
def q114 : P2 := .o q56
def q115 : P2 := .z q57
def q116 : P2 := .o q57
def q117 : P2 := .z q58
def q118 : P2 := .o q58
def q119 : P2 := .z q59
def q120 : P2 := .o q59
def q121 : P2 := .z q60
def q122 : P2 := .o q60
def q123 : P2 := .z q61
def q124 : P2 := .o q61
def q125 : P2 := .z q62
def q126 : P2 := .o q62
def q127 : P2 := .z q63
def q128 : P2 := .o q63
def q129 : P2 := .z q64
def q130 : P2 := .o q64
def q131 : P2 := .z q65
def q132 : P2 := .o q65
def q133 : P2 := .z q66
def q134 : P2 := .o q66
def q135 : P2 := .z q67
def q136 : P2 := .o q67
def q137 : P2 := .z q68
def q138 : P2 := .o q68
def q139 : P2 := .z q69
def q140 : P2 := .o q69
def q141 : P2 := .z q70
def q142 : P2 := .o q70
def q143 : P2 := .z q71
def q144 : P2 := .o q71
def q145 : P2 := .z q72
def q146 : P2 := .o q72
def q147 : P2 := .z q73
def q148 : P2 := .o q73
def q149 : P2 := .z q74
def q150 : P2 := .o q74
def q151 : P2 := .z q75
def q152 : P2 := .o q75
def q153 : P2 := .z q76
def q154 : P2 := .o q76
def q155 : P2 := .z q77
def q156 : P2 := .o q77
def q157 : P2 := .z q78
def q158 : P2 := .o q78
def q159 : P2 := .z q79
def q160 : P2 := .o q79
def q161 : P2 := .z q80
def q162 : P2 := .o q80
def q163 : P2 := .z q81
def q164 : P2 := .o q81
def q165 : P2 := .z q82
def q166 : P2 := .o q82
def q167 : P2 := .z q83
def q168 : P2 := .o q83
def q169 : P2 := .z q84
def q170 : P2 := .o q84
def q171 : P2 := .z q85
def q172 : P2 := .o q85
def q173 : P2 := .z q86
def q174 : P2 := .o q86
def q175 : P2 := .z q87
def q176 : P2 := .o q87
def q177 : P2 := .z q88
def q178 : P2 := .o q88
def q179 : P2 := .z q89
def q180 : P2 := .o q89
def q181 : P2 := .z q90
def q182 : P2 := .o q90
def q183 : P2 := .z q91
def q184 : P2 := .o q91
def q185 : P2 := .z q92
def q186 : P2 := .o q92
def q187 : P2 := .z q93
def q188 : P2 := .o q93
def q189 : P2 := .z q94
def q190 : P2 := .o q94
def q191 : P2 := .z q95
def q192 : P2 := .o q95
def q193 : P2 := .z q96
def q194 : P2 := .o q96
def q195 : P2 := .z q97
def q196 : P2 := .o q97
def q197 : P2 := .z q98
def q198 : P2 := .o q98
def q199 : P2 := .z q99
def q200 : P2 := .o q99
def q201 : P2 := .z q100
def q202 : P2 := .o q100
def q203 : P2 := .z q101
def q204 : P2 := .o q101
def q205 : P2 := .z q102
def q206 : P2 := .o q102
def q207 : P2 := .z q103
def q208 : P2 := .o q103
def q209 : P2 := .z q104
def q210 : P2 := .o q104
def q211 : P2 := .z q105
def q212 : P2 := .o q105
def q213 : P2 := .z q106
def q214 : P2 := .o q106
def q215 : P2 := .z q107
def q216 : P2 := .o q107
def q217 : P2 := .z q108
def q218 : P2 := .o q108
def q219 : P2 := .z q109
def q220 : P2 := .o q109
def q221 : P2 := .z q110
def q222 : P2 := .o q110
def q223 : P2 := .z q111
def q224 : P2 := .o q111
def q225 : P2 := .z q112
def q226 : P2 := .o q112
end Go.R5

/- The abstract code is what the program has: the translation, run by the kernel. -/
namespace Go.R5
open Go.Eng
set_option maxRecDepth 100000
noncomputable abbrev tr (l : List (Nat × Nat)) (d : Bool) (o : Ords) (g : Nat) (f : Func) : Option AF := trF Go.Proofs.Tryz.prog (inR l) d o g f
noncomputable abbrev o_f5 := tr [(9,9),(16,16),(18,26),(28,35),(37,67),(69,69),(74,77),(79,79)] false [] 0 Proofs.Tryz.f5
noncomputable def af_f5 := theAF o_f5
theorem tr_f5 : o_f5 = some af_f5 := theAF_ok (by kernel_rfl)
noncomputable abbrev o_f6 := tr [(11,11),(15,15),(17,28),(30,37),(39,63),(65,70),(72,96)] false [] 0 Proofs.Tryz.f6
noncomputable def af_f6 := theAF o_f6
theorem tr_f6 : o_f6 = some af_f6 := theAF_ok (by kernel_rfl)
noncomputable abbrev o_f7 := tr [(9,9),(18,18),(20,21),(23,29),(31,38),(40,43),(45,84)] false [] 0 Proofs.Tryz.f7
noncomputable def af_f7 := theAF o_f7
theorem tr_f7 : o_f7 = some af_f7 := theAF_ok (by kernel_rfl)
noncomputable abbrev o_f8 := tr [(10,10),(17,17),(19,37),(39,46),(48,87)] false [] 0 Proofs.Tryz.f8
noncomputable def af_f8 := theAF o_f8
theorem tr_f8 : o_f8 = some af_f8 := theAF_ok (by kernel_rfl)
noncomputable abbrev o_f10 := tr [(16,16),(21,29),(31,38),(43,52),(54,60)] false [] 0 Proofs.Tryz.f10
noncomputable def af_f10 := theAF o_f10
theorem tr_f10 : o_f10 = some af_f10 := theAF_ok (by kernel_rfl)
noncomputable abbrev o_f11 := tr [(11,11),(16,24),(26,31)] false [] 0 Proofs.Tryz.f11
noncomputable def af_f11 := theAF o_f11
theorem tr_f11 : o_f11 = some af_f11 := theAF_ok (by kernel_rfl)
noncomputable abbrev o_f13 := tr [(5,5),(9,15),(17,24),(26,57)] false [] 0 Proofs.Tryz.f13
noncomputable def af_f13 := theAF o_f13
theorem tr_f13 : o_f13 = some af_f13 := theAF_ok (by kernel_rfl)
noncomputable abbrev o_f14 := tr [(11,17),(19,33)] false [] 0 Proofs.Tryz.f14
noncomputable def af_f14 := theAF o_f14
theorem tr_f14 : o_f14 = some af_f14 := theAF_ok (by kernel_rfl)
noncomputable abbrev o_f15 := tr [(12,12),(20,30),(32,34),(45,45),(47,57),(62,77),(79,83),(85,89)] false [(4,opl 10),(20,opl 11),(21,opl 9)] 0 Proofs.Tryz.f15
noncomputable def af_f15 := theAF o_f15
theorem tr_f15 : o_f15 = some af_f15 := theAF_ok (by kernel_rfl)
noncomputable abbrev o_f16 := tr [(17,17),(24,28),(33,34),(42,50),(52,54),(65,65),(67,73),(78,96),(98,98)] false [(5,opl 8),(10,opl 10),(23,opl 13)] 0 Proofs.Tryz.f16
noncomputable def af_f16 := theAF o_f16
theorem tr_f16 : o_f16 = some af_f16 := theAF_ok (by kernel_rfl)
noncomputable abbrev o_f17 := tr [(5,23)] false [] 0 Proofs.Tryz.f17
noncomputable def af_f17 := theAF o_f17
theorem tr_f17 : o_f17 = some af_f17 := theAF_ok (by kernel_rfl)
noncomputable abbrev o_f19 := tr [(8,14),(18,24),(31,32)] false [(3,opl 4),(7,opl 7)] 0 Proofs.Tryz.f19
noncomputable def af_f19 := theAF o_f19
theorem tr_f19 : o_f19 = some af_f19 := theAF_ok (by kernel_rfl)
noncomputable abbrev o_f20 := tr [(6,6),(11,20)] false [] 0 Proofs.Tryz.f20
noncomputable def af_f20 := theAF o_f20
theorem tr_f20 : o_f20 = some af_f20 := theAF_ok (by kernel_rfl)
noncomputable abbrev o_f21 := tr [(12,18),(32,36),(43,51),(56,58),(66,71),(78,79)] false [(2,opl 9),(3,opl 6),(6,opl 7),(12,opl 8),(15,opl 7)] 0 Proofs.Tryz.f21
noncomputable def af_f21 := theAF o_f21
theorem tr_f21 : o_f21 = some af_f21 := theAF_ok (by kernel_rfl)
noncomputable abbrev o_f22 := tr [(10,20),(25,26),(41,46),(48,52)] false [(7,opl 15)] 0 Proofs.Tryz.f22
noncomputable def af_f22 := theAF o_f22
theorem tr_f22 : o_f22 = some af_f22 := theAF_ok (by kernel_rfl)
noncomputable abbrev o_f23 := tr [(12,12),(16,16),(19,24),(29,48),(52,53)] false [(8,opl 5)] 0 Proofs.Tryz.f23
noncomputable def af_f23 := theAF o_f23
theorem tr_f23 : o_f23 = some af_f23 := theAF_ok (by kernel_rfl)
noncomputable abbrev o_f26 := tr [(13,14),(16,18),(23,24),(37,39),(41,41),(62,72),(77,78),(87,87),(89,93),(95,96)] false [(8,opl 14),(13,opl 9),(14,opl 13),(21,opl 9)] 0 Proofs.Tryz.f26
noncomputable def af_f26 := theAF o_f26
theorem tr_f26 : o_f26 = some af_f26 := theAF_ok (by kernel_rfl)
noncomputable abbrev o_f27 := tr [(6,6),(11,11),(16,25),(30,32),(43,45),(47,54)] false [(8,opl 11)] 0 Proofs.Tryz.f27
noncomputable def af_f27 := theAF o_f27
theorem tr_f27 : o_f27 = some af_f27 := theAF_ok (by kernel_rfl)
noncomputable abbrev o_f28 := tr [(1,1)] false [] 0 Proofs.Tryz.f28
noncomputable def af_f28 := theAF o_f28
theorem tr_f28 : o_f28 = some af_f28 := theAF_ok (by kernel_rfl)
noncomputable abbrev o_f29 := tr [(5,8)] false [] 0 Proofs.Tryz.f29
noncomputable def af_f29 := theAF o_f29
theorem tr_f29 : o_f29 = some af_f29 := theAF_ok (by kernel_rfl)
noncomputable abbrev o_f30 := tr [] false [(1,opl 4)] 0 Proofs.Tryz.f30
noncomputable def af_f30 := theAF o_f30
theorem tr_f30 : o_f30 = some af_f30 := theAF_ok (by kernel_rfl)
noncomputable abbrev o_f31 := tr [(9,9),(22,30),(44,55),(68,75)] false [(1,opl 11),(3,opp [0,1,2,3,4,5,6,7,12,8,9,10,11,13,14]),(6,opl 12),(10,opl 14)] 0 Proofs.Tryz.f31
noncomputable def af_f31 := theAF o_f31
theorem tr_f31 : o_f31 = some af_f31 := theAF_ok (by kernel_rfl)
noncomputable abbrev o_f32 := tr [(6,10),(12,21),(23,36),(38,41),(53,55),(67,75),(77,85),(100,104),(112,112)] false [(8,opl 11),(10,opl 13),(15,opl 15),(17,opp [0,1,3,4,2,5])] 0 Proofs.Tryz.f32
noncomputable def af_f32 := theAF o_f32
theorem tr_f32 : o_f32 = some af_f32 := theAF_ok (by kernel_rfl)
noncomputable abbrev o_f33 := tr [] false [(1,opl 4)] 0 Proofs.Tryz.f33
noncomputable def af_f33 := theAF o_f33
theorem tr_f33 : o_f33 = some af_f33 := theAF_ok (by kernel_rfl)
noncomputable abbrev o_f34 := tr [(12,18),(29,37),(42,47),(59,67)] true [(2,opl 10),(10,opl 11)] 75 Proofs.Tryz.f34
noncomputable def af_f34 := theAF o_f34
theorem tr_f34 : o_f34 = some af_f34 := theAF_ok (by kernel_rfl)
noncomputable abbrev o_f35 := tr [(10,11),(14,31),(36,46),(48,50)] false [] 0 Proofs.Tryz.f35
noncomputable def af_f35 := theAF o_f35
theorem tr_f35 : o_f35 = some af_f35 := theAF_ok (by kernel_rfl)
noncomputable abbrev o_f36 := tr [(6,9),(11,11),(15,15),(25,25)] false [(6,opl 9)] 0 Proofs.Tryz.f36
noncomputable def af_f36 := theAF o_f36
theorem tr_f36 : o_f36 = some af_f36 := theAF_ok (by kernel_rfl)
noncomputable abbrev o_f38 := tr [(8,13),(20,27),(35,40),(42,43)] false [(3,opl 7),(8,opl 8)] 0 Proofs.Tryz.f38
noncomputable def af_f38 := theAF o_f38
theorem tr_f38 : o_f38 = some af_f38 := theAF_ok (by kernel_rfl)
noncomputable abbrev o_f39 := tr [(5,19),(21,32),(34,35),(37,40),(50,57),(59,61),(69,84),(86,88)] false [(11,opp [0,1,2,4,3,5,6,7,8,9]),(15,opl 8)] 0 Proofs.Tryz.f39
noncomputable def af_f39 := theAF o_f39
theorem tr_f39 : o_f39 = some af_f39 := theAF_ok (by kernel_rfl)
noncomputable abbrev o_f40 := tr [(3,8)] false [] 0 Proofs.Tryz.f40
noncomputable def af_f40 := theAF o_f40
theorem tr_f40 : o_f40 = some af_f40 := theAF_ok (by kernel_rfl)
noncomputable abbrev o_f41 := tr [(14,14),(19,20),(28,30)] false [(1,opp [0,1,2,3,4,5,8,6,7,9]),(5,opl 8)] 0 Proofs.Tryz.f41
noncomputable def af_f41 := theAF o_f41
theorem tr_f41 : o_f41 = some af_f41 := theAF_ok (by kernel_rfl)
noncomputable abbrev o_f42 := tr [(6,9),(14,15),(23,24)] false [(5,opl 8)] 0 Proofs.Tryz.f42
noncomputable def af_f42 := theAF o_f42
theorem tr_f42 : o_f42 = some af_f42 := theAF_ok (by kernel_rfl)
noncomputable abbrev o_f43 := tr [(8,8),(10,26)] false [] 0 Proofs.Tryz.f43
noncomputable def af_f43 := theAF o_f43
theorem tr_f43 : o_f43 = some af_f43 := theAF_ok (by kernel_rfl)
noncomputable abbrev o_f44 := tr [(5,30)] false [] 0 Proofs.Tryz.f44
noncomputable def af_f44 := theAF o_f44
theorem tr_f44 : o_f44 = some af_f44 := theAF_ok (by kernel_rfl)
noncomputable abbrev o_f45 := tr [(10,10),(13,14),(18,18),(21,31),(33,49),(51,59),(61,62),(64,66),(71,77),(79,88),(90,91),(96,105),(107,127),(129,129)] false [] 0 Proofs.Tryz.f45
noncomputable def af_f45 := theAF o_f45
theorem tr_f45 : o_f45 = some af_f45 := theAF_ok (by kernel_rfl)
noncomputable abbrev o_f46 := tr [(3,3),(5,7)] false [] 0 Proofs.Tryz.f46
noncomputable def af_f46 := theAF o_f46
theorem tr_f46 : o_f46 = some af_f46 := theAF_ok (by kernel_rfl)
noncomputable abbrev o_f47 := tr [(7,15),(20,33)] false [] 0 Proofs.Tryz.f47
noncomputable def af_f47 := theAF o_f47
theorem tr_f47 : o_f47 = some af_f47 := theAF_ok (by kernel_rfl)
noncomputable abbrev o_f48 := tr [(4,8)] false [] 0 Proofs.Tryz.f48
noncomputable def af_f48 := theAF o_f48
theorem tr_f48 : o_f48 = some af_f48 := theAF_ok (by kernel_rfl)
noncomputable abbrev o_f49 := tr [(5,9)] false [] 0 Proofs.Tryz.f49
noncomputable def af_f49 := theAF o_f49
theorem tr_f49 : o_f49 = some af_f49 := theAF_ok (by kernel_rfl)
noncomputable abbrev o_f50 := tr [(5,7)] false [] 0 Proofs.Tryz.f50
noncomputable def af_f50 := theAF o_f50
theorem tr_f50 : o_f50 = some af_f50 := theAF_ok (by kernel_rfl)
noncomputable abbrev o_f51 := tr [(8,14),(16,20),(25,40)] false [] 0 Proofs.Tryz.f51
noncomputable def af_f51 := theAF o_f51
theorem tr_f51 : o_f51 = some af_f51 := theAF_ok (by kernel_rfl)
noncomputable abbrev o_f52 := tr [(9,27),(29,29),(34,47),(49,80),(82,82),(87,88),(95,96)] false [(15,opl 6)] 0 Proofs.Tryz.f52
noncomputable def af_f52 := theAF o_f52
theorem tr_f52 : o_f52 = some af_f52 := theAF_ok (by kernel_rfl)
noncomputable abbrev o_f53 := tr [(9,9),(11,22),(24,24),(31,31)] false [(6,[(0,.plain),(1,.plain),(2,.plain),(4,.plain),(5,.plain),(3,.plain),(6,.wr),(7,.wr)])] 0 Proofs.Tryz.f53
noncomputable def af_f53 := theAF o_f53
theorem tr_f53 : o_f53 = some af_f53 := theAF_ok (by kernel_rfl)
noncomputable abbrev o_f54 := tr [(8,8),(13,17),(19,21)] false [] 0 Proofs.Tryz.f54
noncomputable def af_f54 := theAF o_f54
theorem tr_f54 : o_f54 = some af_f54 := theAF_ok (by kernel_rfl)
noncomputable abbrev o_f56 := tr [(5,30)] false [] 0 Proofs.Tryz.f56
noncomputable def af_f56 := theAF o_f56
theorem tr_f56 : o_f56 = some af_f56 := theAF_ok (by kernel_rfl)
noncomputable abbrev o_f62 := tr [(14,14),(16,16),(21,22),(32,32),(41,41),(46,47),(62,69),(71,72),(77,85),(87,87)] false [(4,opl 9),(7,opl 8),(12,opp [0,1,2,3,4,5,6,7,8,14,9,10,11,12,13,15,16,17])] 0 Proofs.Tryz.f62
noncomputable def af_f62 := theAF o_f62
theorem tr_f62 : o_f62 = some af_f62 := theAF_ok (by kernel_rfl)
noncomputable abbrev o_f63 := tr [(3,3),(5,9)] false [] 0 Proofs.Tryz.f63
noncomputable def af_f63 := theAF o_f63
theorem tr_f63 : o_f63 = some af_f63 := theAF_ok (by kernel_rfl)
noncomputable abbrev o_f64 := tr [(8,8),(10,21)] false [] 0 Proofs.Tryz.f64
noncomputable def af_f64 := theAF o_f64
theorem tr_f64 : o_f64 = some af_f64 := theAF_ok (by kernel_rfl)
noncomputable abbrev o_f65 := tr [(8,19),(41,58),(86,106),(108,123),(125,140),(142,146)] false [(4,opl 11),(6,opl 10),(10,opl 13),(11,opl 15)] 0 Proofs.Tryz.f65
noncomputable def af_f65 := theAF o_f65
theorem tr_f65 : o_f65 = some af_f65 := theAF_ok (by kernel_rfl)
noncomputable abbrev o_f66 := tr [(6,6),(10,15),(17,18)] false [] 0 Proofs.Tryz.f66
noncomputable def af_f66 := theAF o_f66
theorem tr_f66 : o_f66 = some af_f66 := theAF_ok (by kernel_rfl)
noncomputable abbrev o_f67 := tr [(11,11),(28,52),(54,55)] false [(1,opl 12)] 0 Proofs.Tryz.f67
noncomputable def af_f67 := theAF o_f67
theorem tr_f67 : o_f67 = some af_f67 := theAF_ok (by kernel_rfl)
noncomputable abbrev o_f68 := tr [(9,9),(12,19),(24,29),(31,37)] false [] 0 Proofs.Tryz.f68
noncomputable def af_f68 := theAF o_f68
theorem tr_f68 : o_f68 = some af_f68 := theAF_ok (by kernel_rfl)
noncomputable abbrev o_f69 := tr [(4,7)] false [] 0 Proofs.Tryz.f69
noncomputable def af_f69 := theAF o_f69
theorem tr_f69 : o_f69 = some af_f69 := theAF_ok (by kernel_rfl)
noncomputable abbrev o_f70 := tr [] false [(1,opl 12)] 0 Proofs.Tryz.f70
noncomputable def af_f70 := theAF o_f70
theorem tr_f70 : o_f70 = some af_f70 := theAF_ok (by kernel_rfl)
noncomputable abbrev o_f71 := tr [(6,6),(8,11),(13,13),(30,37),(39,44),(46,46),(60,60),(74,79),(81,87),(89,93),(95,95),(112,115),(117,129),(131,143),(145,153)] false [(4,opl 15),(10,opl 12),(12,opl 13),(19,opl 16),(35,opl 8)] 0 Proofs.Tryz.f71
noncomputable def af_f71 := theAF o_f71
theorem tr_f71 : o_f71 = some af_f71 := theAF_ok (by kernel_rfl)
noncomputable abbrev o_f72 := tr [(9,14),(16,44)] false [] 0 Proofs.Tryz.f72
noncomputable def af_f72 := theAF o_f72
theorem tr_f72 : o_f72 = some af_f72 := theAF_ok (by kernel_rfl)
noncomputable abbrev o_f73 := tr [(6,14)] false [(1,opl 21)] 0 Proofs.Tryz.f73
noncomputable def af_f73 := theAF o_f73
theorem tr_f73 : o_f73 = some af_f73 := theAF_ok (by kernel_rfl)
noncomputable abbrev o_f74 := tr [(5,8),(10,14)] false [] 0 Proofs.Tryz.f74
noncomputable def af_f74 := theAF o_f74
theorem tr_f74 : o_f74 = some af_f74 := theAF_ok (by kernel_rfl)
noncomputable abbrev o_f75 := tr [(1,7)] false [] 0 Proofs.Tryz.f75
noncomputable def af_f75 := theAF o_f75
theorem tr_f75 : o_f75 = some af_f75 := theAF_ok (by kernel_rfl)
noncomputable abbrev o_f76 := tr [(10,22),(24,27)] false [] 0 Proofs.Tryz.f76
noncomputable def af_f76 := theAF o_f76
theorem tr_f76 : o_f76 = some af_f76 := theAF_ok (by kernel_rfl)
noncomputable abbrev o_f77 := tr [(3,4),(6,9)] false [] 0 Proofs.Tryz.f77
noncomputable def af_f77 := theAF o_f77
theorem tr_f77 : o_f77 = some af_f77 := theAF_ok (by kernel_rfl)
noncomputable abbrev o_f80 := tr [(24,39),(61,61),(73,75)] false [(0,opl 10),(1,opl 10),(4,opl 11),(5,opl 11),(7,opl 11)] 0 Proofs.Tryz.f80
noncomputable def af_f80 := theAF o_f80
theorem tr_f80 : o_f80 = some af_f80 := theAF_ok (by kernel_rfl)
noncomputable abbrev o_f81 := tr [(9,13),(24,24),(37,37),(49,52),(54,59),(61,68),(70,70),(72,85),(87,87),(89,92),(94,109)] false [(2,opl 10),(4,opl 10),(8,opl 11)] 0 Proofs.Tryz.f81
noncomputable def af_f81 := theAF o_f81
theorem tr_f81 : o_f81 = some af_f81 := theAF_ok (by kernel_rfl)
noncomputable abbrev o_f82 := tr [(10,14),(16,18)] false [] 0 Proofs.Tryz.f82
noncomputable def af_f82 := theAF o_f82
theorem tr_f82 : o_f82 = some af_f82 := theAF_ok (by kernel_rfl)
noncomputable abbrev o_f83 := tr [(5,17),(19,23)] false [] 0 Proofs.Tryz.f83
noncomputable def af_f83 := theAF o_f83
theorem tr_f83 : o_f83 = some af_f83 := theAF_ok (by kernel_rfl)
noncomputable abbrev o_f84 := tr [(5,8),(10,11)] false [] 0 Proofs.Tryz.f84
noncomputable def af_f84 := theAF o_f84
theorem tr_f84 : o_f84 = some af_f84 := theAF_ok (by kernel_rfl)
noncomputable abbrev o_f85 := tr [(4,6),(8,12)] false [] 0 Proofs.Tryz.f85
noncomputable def af_f85 := theAF o_f85
theorem tr_f85 : o_f85 = some af_f85 := theAF_ok (by kernel_rfl)
noncomputable abbrev o_f86 := tr [(4,4),(6,7)] false [] 0 Proofs.Tryz.f86
noncomputable def af_f86 := theAF o_f86
theorem tr_f86 : o_f86 = some af_f86 := theAF_ok (by kernel_rfl)
noncomputable abbrev o_f87 := tr [(11,44),(46,46)] false [] 0 Proofs.Tryz.f87
noncomputable def af_f87 := theAF o_f87
theorem tr_f87 : o_f87 = some af_f87 := theAF_ok (by kernel_rfl)
noncomputable abbrev o_f88 := tr [(6,12),(17,34),(36,38),(40,44),(54,62)] false [(2,opp [0,1,4,2,3,5]),(11,opp [0,1,2,4,3,5,6,7,8,9])] 0 Proofs.Tryz.f88
noncomputable def af_f88 := theAF o_f88
theorem tr_f88 : o_f88 = some af_f88 := theAF_ok (by kernel_rfl)
noncomputable abbrev o_f89 := tr [(4,8),(10,21)] false [] 0 Proofs.Tryz.f89
noncomputable def af_f89 := theAF o_f89
theorem tr_f89 : o_f89 = some af_f89 := theAF_ok (by kernel_rfl)
noncomputable abbrev o_f90 := tr [(3,3),(5,7)] false [] 0 Proofs.Tryz.f90
noncomputable def af_f90 := theAF o_f90
theorem tr_f90 : o_f90 = some af_f90 := theAF_ok (by kernel_rfl)
noncomputable abbrev o_f91 := tr [(6,13),(18,28)] false [] 0 Proofs.Tryz.f91
noncomputable def af_f91 := theAF o_f91
theorem tr_f91 : o_f91 = some af_f91 := theAF_ok (by kernel_rfl)
noncomputable abbrev o_f92 := tr [(2,11)] false [] 0 Proofs.Tryz.f92
noncomputable def af_f92 := theAF o_f92
theorem tr_f92 : o_f92 = some af_f92 := theAF_ok (by kernel_rfl)
noncomputable abbrev o_f93 := tr [(6,9),(11,11),(15,15),(25,25)] false [(6,opl 9)] 0 Proofs.Tryz.f93
noncomputable def af_f93 := theAF o_f93
theorem tr_f93 : o_f93 = some af_f93 := theAF_ok (by kernel_rfl)
noncomputable abbrev o_f94 := tr [(10,13),(19,29),(31,31)] false [] 0 Proofs.Tryz.f94
noncomputable def af_f94 := theAF o_f94
theorem tr_f94 : o_f94 = some af_f94 := theAF_ok (by kernel_rfl)
noncomputable abbrev o_f95 := tr [(5,8)] false [] 0 Proofs.Tryz.f95
noncomputable def af_f95 := theAF o_f95
theorem tr_f95 : o_f95 = some af_f95 := theAF_ok (by kernel_rfl)
noncomputable abbrev o_f96 := tr [(5,6),(10,10),(29,31),(35,35),(54,54)] false [(4,opl 18),(10,opl 18)] 0 Proofs.Tryz.f96
noncomputable def af_f96 := theAF o_f96
theorem tr_f96 : o_f96 = some af_f96 := theAF_ok (by kernel_rfl)
noncomputable abbrev o_f97 := tr [(7,7),(13,16),(18,20),(22,29),(31,31)] false [] 0 Proofs.Tryz.f97
noncomputable def af_f97 := theAF o_f97
theorem tr_f97 : o_f97 = some af_f97 := theAF_ok (by kernel_rfl)
noncomputable abbrev o_f98 := tr [(10,10),(14,14),(17,22),(27,40),(44,45)] false [(8,opl 5)] 0 Proofs.Tryz.f98
noncomputable def af_f98 := theAF o_f98
theorem tr_f98 : o_f98 = some af_f98 := theAF_ok (by kernel_rfl)
noncomputable abbrev o_f99 := tr [] false [(1,opp [0,1,2,3,4,9,5,6,7,8,10,11]),(2,opl 18),(3,opp [0,1,2,3,4,5,6,7,8,10,11,12,13,14,15,9,16,17,18,19,20,21,22,23])] 0 Proofs.Tryz.f99
noncomputable def af_f99 := theAF o_f99
theorem tr_f99 : o_f99 = some af_f99 := theAF_ok (by kernel_rfl)
noncomputable abbrev o_f100 := tr [(9,14),(19,39)] false [] 0 Proofs.Tryz.f100
noncomputable def af_f100 := theAF o_f100
theorem tr_f100 : o_f100 = some af_f100 := theAF_ok (by kernel_rfl)
noncomputable abbrev o_f101 := tr [(10,12),(14,29),(31,34),(36,53),(55,62)] false [] 0 Proofs.Tryz.f101
noncomputable def af_f101 := theAF o_f101
theorem tr_f101 : o_f101 = some af_f101 := theAF_ok (by kernel_rfl)
noncomputable abbrev o_f102 := tr [(5,7)] false [] 0 Proofs.Tryz.f102
noncomputable def af_f102 := theAF o_f102
theorem tr_f102 : o_f102 = some af_f102 := theAF_ok (by kernel_rfl)
noncomputable abbrev o_f103 := tr [(29,43)] false [(1,opp [0,1,2,3,4,5,6,7,9,10,11,12,13,14,15,16,17,18,8,19,20,21,22,23,24,25])] 0 Proofs.Tryz.f103
noncomputable def af_f103 := theAF o_f103
theorem tr_f103 : o_f103 = some af_f103 := theAF_ok (by kernel_rfl)
noncomputable abbrev o_f104 := tr [(7,11),(16,21)] false [(6,opl 20)] 0 Proofs.Tryz.f104
noncomputable def af_f104 := theAF o_f104
theorem tr_f104 : o_f104 = some af_f104 := theAF_ok (by kernel_rfl)
noncomputable abbrev o_f105 := tr [(2,3),(11,21),(29,32)] false [(1,opl 7),(3,opl 7)] 0 Proofs.Tryz.f105
noncomputable def af_f105 := theAF o_f105
theorem tr_f105 : o_f105 = some af_f105 := theAF_ok (by kernel_rfl)
noncomputable abbrev o_f106 := tr [(8,47),(49,49),(54,70),(72,75),(80,107),(109,111)] false [] 0 Proofs.Tryz.f106
noncomputable def af_f106 := theAF o_f106
theorem tr_f106 : o_f106 = some af_f106 := theAF_ok (by kernel_rfl)
noncomputable abbrev o_f107 := tr [(13,27),(32,34),(36,37),(42,45),(47,48),(53,56),(58,59),(64,88),(90,91),(96,106),(108,108)] false [] 0 Proofs.Tryz.f107
noncomputable def af_f107 := theAF o_f107
theorem tr_f107 : o_f107 = some af_f107 := theAF_ok (by kernel_rfl)
noncomputable abbrev o_f108 := tr [(6,8),(10,13),(15,17)] false [(6,opl 12)] 0 Proofs.Tryz.f108
noncomputable def af_f108 := theAF o_f108
theorem tr_f108 : o_f108 = some af_f108 := theAF_ok (by kernel_rfl)
noncomputable abbrev o_f109 := tr [(5,5)] false [] 0 Proofs.Tryz.f109
noncomputable def af_f109 := theAF o_f109
theorem tr_f109 : o_f109 = some af_f109 := theAF_ok (by kernel_rfl)
noncomputable abbrev o_f110 := tr [(6,9),(11,11),(15,15),(25,25)] false [(6,opl 9)] 0 Proofs.Tryz.f110
noncomputable def af_f110 := theAF o_f110
theorem tr_f110 : o_f110 = some af_f110 := theAF_ok (by kernel_rfl)
noncomputable abbrev o_f113 := tr [(8,17)] false [] 0 Proofs.Tryz.f113
noncomputable def af_f113 := theAF o_f113
theorem tr_f113 : o_f113 = some af_f113 := theAF_ok (by kernel_rfl)
noncomputable abbrev o_f116 := tr [(3,4)] false [] 0 Proofs.Tryz.f116
noncomputable def af_f116 := theAF o_f116
theorem tr_f116 : o_f116 = some af_f116 := theAF_ok (by kernel_rfl)
noncomputable abbrev o_f117 := tr [(18,24),(26,33),(35,36),(62,62),(67,69),(86,86),(107,108),(113,115),(151,151),(153,162)] false [(6,opl 18),(8,opl 9),(14,opp [0,1,2,3,4,5,6,7,8,9,10,11,16,12,13,14,15,17,18]),(17,[(0,.plain),(1,.plain),(2,.plain),(3,.plain),(4,.plain),(5,.plain),(6,.plain),(7,.plain),(8,.plain),(9,.plain),(10,.plain),(11,.plain),(12,.wr)]),(18,opl 8),(23,opp [0,1,2,3,4,5,6,7,8,9,10,11,16,12,13,14,15,17,18]),(24,[(0,.plain),(1,.plain),(2,.plain),(3,.plain),(4,.plain),(5,.plain),(6,.plain),(7,.plain),(8,.plain),(9,.plain),(10,.plain),(11,.plain),(12,.wr)]),(25,opl 8)] 0 Proofs.Tryz.f117
noncomputable def af_f117 := theAF o_f117
theorem tr_f117 : o_f117 = some af_f117 := theAF_ok (by kernel_rfl)
noncomputable abbrev o_f118 := tr [] false [(1,opp [0,1,3,4,2,5,6,7])] 0 Proofs.Tryz.f118
noncomputable def af_f118 := theAF o_f118
theorem tr_f118 : o_f118 = some af_f118 := theAF_ok (by kernel_rfl)
noncomputable abbrev o_f119 := tr [(12,12),(15,15),(17,19),(22,26),(28,32),(34,38),(40,40),(65,70),(79,79),(81,97),(99,112),(114,125),(127,138),(140,186),(188,193),(195,200),(202,208),(210,219),(221,225)] false [(10,opl 24),(13,opl 9)] 0 Proofs.Tryz.f119
noncomputable def af_f119 := theAF o_f119
theorem tr_f119 : o_f119 = some af_f119 := theAF_ok (by kernel_rfl)
noncomputable abbrev o_f120 := tr [(7,13),(15,16)] false [] 0 Proofs.Tryz.f120
noncomputable def af_f120 := theAF o_f120
theorem tr_f120 : o_f120 = some af_f120 := theAF_ok (by kernel_rfl)
noncomputable abbrev o_f121 := tr [(3,8)] false [] 0 Proofs.Tryz.f121
noncomputable def af_f121 := theAF o_f121
theorem tr_f121 : o_f121 = some af_f121 := theAF_ok (by kernel_rfl)
noncomputable abbrev o_f122 := tr [(4,5)] false [] 0 Proofs.Tryz.f122
noncomputable def af_f122 := theAF o_f122
theorem tr_f122 : o_f122 = some af_f122 := theAF_ok (by kernel_rfl)
noncomputable abbrev o_f123 := tr [(19,26),(28,31),(33,42),(44,52),(54,62),(64,72),(74,82),(84,92),(94,95)] false [(0,opl 10),(19,opl 12)] 0 Proofs.Tryz.f123
noncomputable def af_f123 := theAF o_f123
theorem tr_f123 : o_f123 = some af_f123 := theAF_ok (by kernel_rfl)
noncomputable abbrev o_f124 := tr [(13,13),(15,18),(20,20),(31,40),(42,51),(53,59),(88,92),(94,102),(104,112),(114,115),(126,131),(133,140),(142,145),(147,160),(162,169),(171,182)] false [(4,opl 11),(11,opl 29),(19,opl 12)] 0 Proofs.Tryz.f124
noncomputable def af_f124 := theAF o_f124
theorem tr_f124 : o_f124 = some af_f124 := theAF_ok (by kernel_rfl)
noncomputable abbrev o_f125 := tr [(3,3),(5,7)] false [] 0 Proofs.Tryz.f125
noncomputable def af_f125 := theAF o_f125
theorem tr_f125 : o_f125 = some af_f125 := theAF_ok (by kernel_rfl)
noncomputable abbrev o_f126 := tr [(3,16),(18,24)] false [] 0 Proofs.Tryz.f126
noncomputable def af_f126 := theAF o_f126
theorem tr_f126 : o_f126 = some af_f126 := theAF_ok (by kernel_rfl)
noncomputable abbrev o_f127 := tr [(5,5),(8,8),(20,44),(46,62),(64,64),(67,67),(76,78),(80,87),(89,96),(98,98)] false [(3,opl 10),(11,opl 8),(19,opl 18)] 0 Proofs.Tryz.f127
noncomputable def af_f127 := theAF o_f127
theorem tr_f127 : o_f127 = some af_f127 := theAF_ok (by kernel_rfl)
noncomputable abbrev o_f128 := tr [(3,8)] false [] 0 Proofs.Tryz.f128
noncomputable def af_f128 := theAF o_f128
theorem tr_f128 : o_f128 = some af_f128 := theAF_ok (by kernel_rfl)
noncomputable abbrev o_f130 := tr [(7,15),(26,43)] false [(3,opl 10)] 0 Proofs.Tryz.f130
noncomputable def af_f130 := theAF o_f130
theorem tr_f130 : o_f130 = some af_f130 := theAF_ok (by kernel_rfl)
noncomputable abbrev o_f131 := tr [(5,7)] false [] 0 Proofs.Tryz.f131
noncomputable def af_f131 := theAF o_f131
theorem tr_f131 : o_f131 = some af_f131 := theAF_ok (by kernel_rfl)
noncomputable abbrev o_f132 := tr [(5,7)] false [] 0 Proofs.Tryz.f132
noncomputable def af_f132 := theAF o_f132
theorem tr_f132 : o_f132 = some af_f132 := theAF_ok (by kernel_rfl)
noncomputable abbrev o_f133 := tr [(3,8)] false [] 0 Proofs.Tryz.f133
noncomputable def af_f133 := theAF o_f133
theorem tr_f133 : o_f133 = some af_f133 := theAF_ok (by kernel_rfl)
noncomputable abbrev o_f134 := tr [(33,34)] false [(2,opl 27),(4,opl 16)] 0 Proofs.Tryz.f134
noncomputable def af_f134 := theAF o_f134
theorem tr_f134 : o_f134 = some af_f134 := theAF_ok (by kernel_rfl)
noncomputable abbrev o_f135 := tr [(3,16)] false [] 0 Proofs.Tryz.f135
noncomputable def af_f135 := theAF o_f135
theorem tr_f135 : o_f135 = some af_f135 := theAF_ok (by kernel_rfl)
noncomputable abbrev o_f136 := tr [(3,8)] false [] 0 Proofs.Tryz.f136
noncomputable def af_f136 := theAF o_f136
theorem tr_f136 : o_f136 = some af_f136 := theAF_ok (by kernel_rfl)
noncomputable abbrev o_f137 := tr [(5,25)] false [] 0 Proofs.Tryz.f137
noncomputable def af_f137 := theAF o_f137
theorem tr_f137 : o_f137 = some af_f137 := theAF_ok (by kernel_rfl)
noncomputable abbrev o_f138 := tr [(3,8)] false [] 0 Proofs.Tryz.f138
noncomputable def af_f138 := theAF o_f138
theorem tr_f138 : o_f138 = some af_f138 := theAF_ok (by kernel_rfl)
noncomputable abbrev o_f139 := tr [(7,7),(12,20),(22,23)] false [] 0 Proofs.Tryz.f139
noncomputable def af_f139 := theAF o_f139
theorem tr_f139 : o_f139 = some af_f139 := theAF_ok (by kernel_rfl)
noncomputable abbrev o_f140 := tr [(4,11),(13,21)] false [] 0 Proofs.Tryz.f140
noncomputable def af_f140 := theAF o_f140
theorem tr_f140 : o_f140 = some af_f140 := theAF_ok (by kernel_rfl)
noncomputable abbrev o_f141 := tr [(4,6),(8,13)] false [] 0 Proofs.Tryz.f141
noncomputable def af_f141 := theAF o_f141
theorem tr_f141 : o_f141 = some af_f141 := theAF_ok (by kernel_rfl)
noncomputable abbrev o_f142 := tr [(4,14),(16,21)] true [] 210 Proofs.Tryz.f142
noncomputable def af_f142 := theAF o_f142
theorem tr_f142 : o_f142 = some af_f142 := theAF_ok (by kernel_rfl)
noncomputable abbrev o_f143 := tr [(4,8)] false [] 0 Proofs.Tryz.f143
noncomputable def af_f143 := theAF o_f143
theorem tr_f143 : o_f143 = some af_f143 := theAF_ok (by kernel_rfl)
noncomputable abbrev o_f144 := tr [(5,9)] false [] 0 Proofs.Tryz.f144
noncomputable def af_f144 := theAF o_f144
theorem tr_f144 : o_f144 = some af_f144 := theAF_ok (by kernel_rfl)
noncomputable abbrev o_f145 := tr [(4,8)] false [] 0 Proofs.Tryz.f145
noncomputable def af_f145 := theAF o_f145
theorem tr_f145 : o_f145 = some af_f145 := theAF_ok (by kernel_rfl)
noncomputable abbrev o_f146 := tr [(5,9)] false [] 0 Proofs.Tryz.f146
noncomputable def af_f146 := theAF o_f146
theorem tr_f146 : o_f146 = some af_f146 := theAF_ok (by kernel_rfl)
noncomputable abbrev o_f147 := tr [(6,6),(10,15),(17,18)] false [] 0 Proofs.Tryz.f147
noncomputable def af_f147 := theAF o_f147
theorem tr_f147 : o_f147 = some af_f147 := theAF_ok (by kernel_rfl)
noncomputable abbrev o_f148 := tr [(3,22)] false [] 0 Proofs.Tryz.f148
noncomputable def af_f148 := theAF o_f148
theorem tr_f148 : o_f148 = some af_f148 := theAF_ok (by kernel_rfl)
noncomputable abbrev o_f149 := tr [(3,22)] false [] 0 Proofs.Tryz.f149
noncomputable def af_f149 := theAF o_f149
theorem tr_f149 : o_f149 = some af_f149 := theAF_ok (by kernel_rfl)
noncomputable abbrev o_f150 := tr [(8,8),(13,17),(19,22)] false [] 0 Proofs.Tryz.f150
noncomputable def af_f150 := theAF o_f150
theorem tr_f150 : o_f150 = some af_f150 := theAF_ok (by kernel_rfl)
noncomputable abbrev o_f151 := tr [(8,10),(15,19),(21,24)] false [] 0 Proofs.Tryz.f151
noncomputable def af_f151 := theAF o_f151
theorem tr_f151 : o_f151 = some af_f151 := theAF_ok (by kernel_rfl)
noncomputable abbrev o_f152 := tr [(9,9),(11,20)] false [] 0 Proofs.Tryz.f152
noncomputable def af_f152 := theAF o_f152
theorem tr_f152 : o_f152 = some af_f152 := theAF_ok (by kernel_rfl)
noncomputable abbrev o_f153 := tr [(8,12),(14,14),(33,38),(43,45),(53,58),(60,65),(68,68),(82,90),(92,92),(113,114),(120,129),(131,131),(149,149),(155,155)] false [(3,opp [0,1,2,3,4,5,6,7,8,9,10,11,13,14,12,15,16,17]),(9,opl 8),(16,opp [0,1,2,3,4,5,6,7,8,10,11,9,12]),(19,opp [0,1,2,3,4,5,6,7,8,9,10,11,13,14,15,16,17,12,18]),(22,opl 5),(26,opp [0,1,2,3,4,5,6,7,8,9,10,11,13,14,12,15]),(28,opl 5)] 0 Proofs.Tryz.f153
noncomputable def af_f153 := theAF o_f153
theorem tr_f153 : o_f153 = some af_f153 := theAF_ok (by kernel_rfl)
noncomputable abbrev o_f154 := tr [(10,13),(15,17),(35,36)] false [(4,opl 17),(6,opl 18)] 0 Proofs.Tryz.f154
noncomputable def af_f154 := theAF o_f154
theorem tr_f154 : o_f154 = some af_f154 := theAF_ok (by kernel_rfl)
noncomputable abbrev o_f155 := tr [(25,27),(29,32),(34,39),(51,57),(59,60),(77,79),(81,84),(86,91),(104,109),(111,112),(129,139),(141,150),(152,157),(172,184),(186,198),(200,212),(214,219)] false [(5,opl 11),(11,opl 18),(17,opl 12),(23,opl 18),(35,opl 14)] 0 Proofs.Tryz.f155
noncomputable def af_f155 := theAF o_f155
theorem tr_f155 : o_f155 = some af_f155 := theAF_ok (by kernel_rfl)
noncomputable abbrev o_f157 := tr [(8,15),(27,33),(36,45),(47,49),(51,53),(55,57),(59,71),(73,91)] false [(3,opl 10)] 0 Proofs.Tryz.f157
noncomputable def af_f157 := theAF o_f157
theorem tr_f157 : o_f157 = some af_f157 := theAF_ok (by kernel_rfl)
noncomputable abbrev o_f158 := tr [(9,30),(45,51)] false [(3,opl 15)] 0 Proofs.Tryz.f158
noncomputable def af_f158 := theAF o_f158
theorem tr_f158 : o_f158 = some af_f158 := theAF_ok (by kernel_rfl)
noncomputable abbrev o_f159 := tr [(8,13),(15,18),(27,27)] false [(4,opl 9)] 0 Proofs.Tryz.f159
noncomputable def af_f159 := theAF o_f159
theorem tr_f159 : o_f159 = some af_f159 := theAF_ok (by kernel_rfl)
noncomputable abbrev o_f160 := tr [(5,7)] false [] 0 Proofs.Tryz.f160
noncomputable def af_f160 := theAF o_f160
theorem tr_f160 : o_f160 = some af_f160 := theAF_ok (by kernel_rfl)
noncomputable abbrev o_f161 := tr [(1,1)] false [] 0 Proofs.Tryz.f161
noncomputable def af_f161 := theAF o_f161
theorem tr_f161 : o_f161 = some af_f161 := theAF_ok (by kernel_rfl)
noncomputable abbrev o_f162 := tr [(3,5)] false [] 0 Proofs.Tryz.f162
noncomputable def af_f162 := theAF o_f162
theorem tr_f162 : o_f162 = some af_f162 := theAF_ok (by kernel_rfl)
noncomputable abbrev o_f163 := tr [(3,10)] false [] 0 Proofs.Tryz.f163
noncomputable def af_f163 := theAF o_f163
theorem tr_f163 : o_f163 = some af_f163 := theAF_ok (by kernel_rfl)
noncomputable abbrev o_f164 := tr [(3,6)] false [] 0 Proofs.Tryz.f164
noncomputable def af_f164 := theAF o_f164
theorem tr_f164 : o_f164 = some af_f164 := theAF_ok (by kernel_rfl)
noncomputable abbrev o_f165 := tr [(7,11),(13,17),(19,23),(25,29),(31,35),(37,39),(41,44)] false [] 0 Proofs.Tryz.f165
noncomputable def af_f165 := theAF o_f165
theorem tr_f165 : o_f165 = some af_f165 := theAF_ok (by kernel_rfl)
noncomputable abbrev o_f167 := tr [(10,13),(22,22),(31,31),(33,38),(48,48),(50,52)] false [(3,opl 8),(5,opl 8),(8,opl 10)] 0 Proofs.Tryz.f167
noncomputable def af_f167 := theAF o_f167
theorem tr_f167 : o_f167 = some af_f167 := theAF_ok (by kernel_rfl)
noncomputable abbrev o_f168 := tr [(3,3),(5,7)] false [] 0 Proofs.Tryz.f168
noncomputable def af_f168 := theAF o_f168
theorem tr_f168 : o_f168 = some af_f168 := theAF_ok (by kernel_rfl)
noncomputable abbrev o_f169 := tr [] false [(1,opl 11),(2,opl 12)] 0 Proofs.Tryz.f169
noncomputable def af_f169 := theAF o_f169
theorem tr_f169 : o_f169 = some af_f169 := theAF_ok (by kernel_rfl)
noncomputable abbrev o_f170 := tr [(1,1)] false [] 0 Proofs.Tryz.f170
noncomputable def af_f170 := theAF o_f170
theorem tr_f170 : o_f170 = some af_f170 := theAF_ok (by kernel_rfl)
noncomputable abbrev o_f171 := tr [(6,12),(14,31)] false [] 0 Proofs.Tryz.f171
noncomputable def af_f171 := theAF o_f171
theorem tr_f171 : o_f171 = some af_f171 := theAF_ok (by kernel_rfl)
noncomputable abbrev o_f172 := tr [(9,12),(14,21),(46,54)] false [(5,opl 24)] 0 Proofs.Tryz.f172
noncomputable def af_f172 := theAF o_f172
theorem tr_f172 : o_f172 = some af_f172 := theAF_ok (by kernel_rfl)
noncomputable abbrev o_f173 := tr [] false [(1,opl 12)] 0 Proofs.Tryz.f173
noncomputable def af_f173 := theAF o_f173
theorem tr_f173 : o_f173 = some af_f173 := theAF_ok (by kernel_rfl)
noncomputable abbrev o_f174 := tr [(13,13),(16,16),(32,32),(67,76),(106,106),(117,131),(133,133),(155,156),(167,172),(174,194),(196,205)] false [(3,opl 15),(5,opl 34),(11,opl 12),(12,opl 17),(14,opl 12),(17,opl 12),(18,opp [0,1,2,3,5,6,7,4,8,9,10]),(21,opl 12)] 0 Proofs.Tryz.f174
noncomputable def af_f174 := theAF o_f174
theorem tr_f174 : o_f174 = some af_f174 := theAF_ok (by kernel_rfl)
noncomputable abbrev o_f175 := tr [(9,12),(14,43)] false [] 0 Proofs.Tryz.f175
noncomputable def af_f175 := theAF o_f175
theorem tr_f175 : o_f175 = some af_f175 := theAF_ok (by kernel_rfl)
noncomputable abbrev o_f176 := tr [(7,7),(11,20),(25,42)] false [] 0 Proofs.Tryz.f176
noncomputable def af_f176 := theAF o_f176
theorem tr_f176 : o_f176 = some af_f176 := theAF_ok (by kernel_rfl)
noncomputable abbrev o_f177 := tr [(11,16),(18,29),(31,39),(61,75),(77,89),(91,98)] false [(10,opl 12),(11,opl 11),(17,opl 12)] 0 Proofs.Tryz.f177
noncomputable def af_f177 := theAF o_f177
theorem tr_f177 : o_f177 = some af_f177 := theAF_ok (by kernel_rfl)
noncomputable abbrev o_f178 := tr [(9,13),(15,26),(38,45),(47,49),(58,64),(66,68),(94,98)] false [(9,opl 8),(13,opl 8),(14,opl 18),(6,opl 11)] 0 Proofs.Tryz.f178
noncomputable def af_f178 := theAF o_f178
theorem tr_f178 : o_f178 = some af_f178 := theAF_ok (by kernel_rfl)
noncomputable abbrev o_f179 := tr [(7,11),(13,14),(17,20),(22,23),(25,30),(32,32),(41,41),(51,74),(76,102),(104,108)] false [(11,opl 8),(13,opl 9)] 0 Proofs.Tryz.f179
noncomputable def af_f179 := theAF o_f179
theorem tr_f179 : o_f179 = some af_f179 := theAF_ok (by kernel_rfl)
noncomputable abbrev o_f181 := tr [(5,17)] false [] 0 Proofs.Tryz.f181
noncomputable def af_f181 := theAF o_f181
theorem tr_f181 : o_f181 = some af_f181 := theAF_ok (by kernel_rfl)
noncomputable abbrev o_f182 := tr [(5,7)] false [] 0 Proofs.Tryz.f182
noncomputable def af_f182 := theAF o_f182
theorem tr_f182 : o_f182 = some af_f182 := theAF_ok (by kernel_rfl)
noncomputable abbrev o_f183 := tr [(3,13),(15,17)] false [] 0 Proofs.Tryz.f183
noncomputable def af_f183 := theAF o_f183
theorem tr_f183 : o_f183 = some af_f183 := theAF_ok (by kernel_rfl)
noncomputable abbrev o_f184 := tr [(4,13),(15,30),(32,36),(38,48),(50,56),(58,68)] false [] 0 Proofs.Tryz.f184
noncomputable def af_f184 := theAF o_f184
theorem tr_f184 : o_f184 = some af_f184 := theAF_ok (by kernel_rfl)
noncomputable abbrev o_f185 := tr [(10,12),(14,29),(31,34),(36,53),(55,62)] false [] 0 Proofs.Tryz.f185
noncomputable def af_f185 := theAF o_f185
theorem tr_f185 : o_f185 = some af_f185 := theAF_ok (by kernel_rfl)
noncomputable abbrev o_f186 := tr [(10,12),(14,29),(31,34),(36,53),(55,62)] false [] 0 Proofs.Tryz.f186
noncomputable def af_f186 := theAF o_f186
theorem tr_f186 : o_f186 = some af_f186 := theAF_ok (by kernel_rfl)
noncomputable abbrev o_f187 := tr [(6,10),(12,17)] false [] 0 Proofs.Tryz.f187
noncomputable def af_f187 := theAF o_f187
theorem tr_f187 : o_f187 = some af_f187 := theAF_ok (by kernel_rfl)
noncomputable abbrev o_f188 := tr [(3,3),(5,7)] false [] 0 Proofs.Tryz.f188
noncomputable def af_f188 := theAF o_f188
theorem tr_f188 : o_f188 = some af_f188 := theAF_ok (by kernel_rfl)
noncomputable abbrev o_f189 := tr [(7,8),(10,11),(13,14),(16,18),(20,23),(25,27),(29,29),(40,46),(48,48),(58,64),(66,70),(72,72),(85,87),(89,89),(107,111),(113,113),(133,139),(141,141),(155,157)] false [(13,opl 10),(16,opp [0,1,2,3,4,9,5,6,7,8,10,11]),(24,opp [0,1,2,3,4,5,6,7,9,10,8,11]),(27,opl 5),(28,opp [0,1,2,3,4,5,6,7,9,10,8,11]),(31,opl 13),(32,opl 6),(35,opl 13)] 0 Proofs.Tryz.f189
noncomputable def af_f189 := theAF o_f189
theorem tr_f189 : o_f189 = some af_f189 := theAF_ok (by kernel_rfl)
noncomputable abbrev o_f190 := tr [(8,10),(15,30)] false [(3,opl 4)] 0 Proofs.Tryz.f190
noncomputable def af_f190 := theAF o_f190
theorem tr_f190 : o_f190 = some af_f190 := theAF_ok (by kernel_rfl)
noncomputable abbrev o_f191 := tr [(13,14),(24,24)] false [(4,opl 9)] 0 Proofs.Tryz.f191
noncomputable def af_f191 := theAF o_f191
theorem tr_f191 : o_f191 = some af_f191 := theAF_ok (by kernel_rfl)
noncomputable abbrev o_f192 := tr [(12,19),(21,22),(24,57)] false [] 0 Proofs.Tryz.f192
noncomputable def af_f192 := theAF o_f192
theorem tr_f192 : o_f192 = some af_f192 := theAF_ok (by kernel_rfl)
noncomputable abbrev o_f193 := tr [(8,9),(11,11),(16,25),(44,50),(52,57)] false [(9,opl 16)] 0 Proofs.Tryz.f193
noncomputable def af_f193 := theAF o_f193
theorem tr_f193 : o_f193 = some af_f193 := theAF_ok (by kernel_rfl)
noncomputable abbrev o_f194 := tr [(8,14),(16,19),(24,30),(33,33),(48,50),(52,54),(56,58),(60,62),(64,70),(72,77),(79,88),(90,99),(101,107),(109,109),(124,124),(142,144),(146,148),(150,152),(154,160),(162,168),(170,173)] false [(10,opl 13),(32,opl 13),(34,opl 16)] 0 Proofs.Tryz.f194
noncomputable def af_f194 := theAF o_f194
theorem tr_f194 : o_f194 = some af_f194 := theAF_ok (by kernel_rfl)
noncomputable abbrev o_f195 := tr [] false [(0,opl 15)] 0 Proofs.Tryz.f195
noncomputable def af_f195 := theAF o_f195
theorem tr_f195 : o_f195 = some af_f195 := theAF_ok (by kernel_rfl)
noncomputable abbrev o_f196 := tr [(6,6),(10,15),(17,18)] false [] 0 Proofs.Tryz.f196
noncomputable def af_f196 := theAF o_f196
theorem tr_f196 : o_f196 = some af_f196 := theAF_ok (by kernel_rfl)
noncomputable abbrev o_f197 := tr [(5,8)] false [] 0 Proofs.Tryz.f197
noncomputable def af_f197 := theAF o_f197
theorem tr_f197 : o_f197 = some af_f197 := theAF_ok (by kernel_rfl)
noncomputable abbrev o_f198 := tr [(8,8),(11,16),(21,25),(27,28)] false [] 0 Proofs.Tryz.f198
noncomputable def af_f198 := theAF o_f198
theorem tr_f198 : o_f198 = some af_f198 := theAF_ok (by kernel_rfl)
noncomputable abbrev o_f199 := tr [(10,11),(13,17),(44,45)] false [(3,opl 17),(4,opl 12),(6,opp [0,1,2,3,4,5,7,6,8,9,10,11,12]),(7,opl 18)] 0 Proofs.Tryz.f199
noncomputable def af_f199 := theAF o_f199
theorem tr_f199 : o_f199 = some af_f199 := theAF_ok (by kernel_rfl)
noncomputable abbrev o_f200 := tr [(8,9),(11,11),(15,39),(44,49),(51,54)] false [] 0 Proofs.Tryz.f200
noncomputable def af_f200 := theAF o_f200
theorem tr_f200 : o_f200 = some af_f200 := theAF_ok (by kernel_rfl)
noncomputable abbrev o_f201 := tr [(8,8),(13,22)] false [] 0 Proofs.Tryz.f201
noncomputable def af_f201 := theAF o_f201
theorem tr_f201 : o_f201 = some af_f201 := theAF_ok (by kernel_rfl)
noncomputable abbrev o_f202 := tr [(4,5)] false [] 0 Proofs.Tryz.f202
noncomputable def af_f202 := theAF o_f202
theorem tr_f202 : o_f202 = some af_f202 := theAF_ok (by kernel_rfl)
noncomputable abbrev o_f203 := tr [(6,6),(11,23),(28,43),(45,47)] false [] 0 Proofs.Tryz.f203
noncomputable def af_f203 := theAF o_f203
theorem tr_f203 : o_f203 = some af_f203 := theAF_ok (by kernel_rfl)
noncomputable abbrev o_f204 := tr [(9,9),(12,12),(30,30),(41,47),(49,55),(57,57),(68,68),(96,100),(121,132),(134,140),(142,144),(153,155),(176,184),(203,207)] false [(3,opp [0,1,2,3,4,5,6,7,8,9,10,11,12,14,13,15,16]),(5,opl 10),(11,opl 10),(13,opl 27),(16,opl 20),(23,opl 8),(25,opp [0,1,2,3,4,5,6,7,8,9,10,11,12,13,15,16,17,14,18,19]),(28,opl 18),(30,opl 11)] 0 Proofs.Tryz.f204
noncomputable def af_f204 := theAF o_f204
theorem tr_f204 : o_f204 = some af_f204 := theAF_ok (by kernel_rfl)
noncomputable abbrev o_f210 := tr [(1,7)] false [] 0 Proofs.Tryz.f210
noncomputable def af_f210 := theAF o_f210
theorem tr_f210 : o_f210 = some af_f210 := theAF_ok (by kernel_rfl)
noncomputable abbrev o_f211 := tr [(3,7)] true [] 210 Proofs.Tryz.f211
noncomputable def af_f211 := theAF o_f211
theorem tr_f211 : o_f211 = some af_f211 := theAF_ok (by kernel_rfl)
noncomputable abbrev o_f212 := tr [(4,24),(26,27),(29,36)] true [] 210 Proofs.Tryz.f212
noncomputable def af_f212 := theAF o_f212
theorem tr_f212 : o_f212 = some af_f212 := theAF_ok (by kernel_rfl)
noncomputable abbrev o_f213 := tr [(5,6),(15,17),(19,25),(27,40),(42,46)] false [(1,opl 10),(8,opl 16)] 0 Proofs.Tryz.f213
noncomputable def af_f213 := theAF o_f213
theorem tr_f213 : o_f213 = some af_f213 := theAF_ok (by kernel_rfl)
noncomputable abbrev o_f214 := tr [(10,13),(15,17),(35,36)] false [(4,opl 17),(6,opl 18)] 0 Proofs.Tryz.f214
noncomputable def af_f214 := theAF o_f214
theorem tr_f214 : o_f214 = some af_f214 := theAF_ok (by kernel_rfl)
noncomputable abbrev o_f215 := tr [(25,27),(29,32),(34,39),(51,57),(59,60),(77,79),(81,84),(86,91),(104,109),(111,112),(129,139),(141,150),(152,157),(172,184),(186,198),(200,212),(214,219)] false [(5,opl 11),(11,opl 18),(17,opl 12),(23,opl 18),(35,opl 14)] 0 Proofs.Tryz.f215
noncomputable def af_f215 := theAF o_f215
theorem tr_f215 : o_f215 = some af_f215 := theAF_ok (by kernel_rfl)
noncomputable abbrev o_f216 := tr [(10,13),(15,17),(35,36)] false [(4,opl 17),(6,opl 18)] 0 Proofs.Tryz.f216
noncomputable def af_f216 := theAF o_f216
theorem tr_f216 : o_f216 = some af_f216 := theAF_ok (by kernel_rfl)
noncomputable abbrev o_f217 := tr [(25,27),(29,32),(34,39),(51,57),(59,60),(77,79),(81,84),(86,91),(104,109),(111,112),(129,139),(141,150),(152,157),(172,184),(186,198),(200,212),(214,219)] false [(5,opl 11),(11,opl 18),(17,opl 12),(23,opl 18),(35,opl 14)] 0 Proofs.Tryz.f217
noncomputable def af_f217 := theAF o_f217
theorem tr_f217 : o_f217 = some af_f217 := theAF_ok (by kernel_rfl)
noncomputable abbrev o_f218 := tr [(7,17),(22,24),(34,40)] false [(5,opl 10)] 0 Proofs.Tryz.f218
noncomputable def af_f218 := theAF o_f218
theorem tr_f218 : o_f218 = some af_f218 := theAF_ok (by kernel_rfl)
noncomputable abbrev o_f219 := tr [(20,23),(63,66),(83,89),(118,123)] false [(0,opl 11),(2,opl 14),(3,opp [0,1,3,4,5,6,7,8,9,2,10,11]),(4,opp [0,1,2,3,4,5,6,8,9,10,11,7,12,13]),(6,opp [0,1,2,3,4,5,6,7,8,9,15,10,11,12,13,14,16,17,18]),(8,opl 10),(9,opp [0,1,2,3,4,5,6,7,8,9,10,11,12,13,14,20,15,16,17,18,19,21,22,23]),(11,opl 7),(12,opl 11)] 0 Proofs.Tryz.f219
noncomputable def af_f219 := theAF o_f219
theorem tr_f219 : o_f219 = some af_f219 := theAF_ok (by kernel_rfl)
noncomputable abbrev o_f220 := tr [(3,5)] false [] 0 Proofs.Tryz.f220
noncomputable def af_f220 := theAF o_f220
theorem tr_f220 : o_f220 = some af_f220 := theAF_ok (by kernel_rfl)
noncomputable abbrev o_f221 := tr [(14,28),(30,33),(35,39),(47,50),(52,70),(78,81),(83,101),(134,144),(146,149),(151,162),(194,197)] false [(5,opl 7),(8,opl 7),(12,opp [0,1,8,9,10,11,12,13,14,2,3,4,5,6,7,15]),(13,opp [0,1,2,3,4,5,6,7,8,9,11,12,13,14,10,15]),(18,opl 18),(19,opp [0,1,2,3,4,5,12,13,14,15,6,7,8,9,10,11,16]),(0,opl 7)] 0 Proofs.Tryz.f221
noncomputable def af_f221 := theAF o_f221
theorem tr_f221 : o_f221 = some af_f221 := theAF_ok (by kernel_rfl)
noncomputable abbrev o_f222 := tr [(11,12),(14,15)] false [(3,opl 24)] 0 Proofs.Tryz.f222
noncomputable def af_f222 := theAF o_f222
theorem tr_f222 : o_f222 = some af_f222 := theAF_ok (by kernel_rfl)
noncomputable abbrev o_f223 := tr [(7,9),(14,19),(21,28)] false [] 0 Proofs.Tryz.f223
noncomputable def af_f223 := theAF o_f223
theorem tr_f223 : o_f223 = some af_f223 := theAF_ok (by kernel_rfl)
noncomputable abbrev o_f224 := tr [] false [(1,opl 18)] 0 Proofs.Tryz.f224
noncomputable def af_f224 := theAF o_f224
theorem tr_f224 : o_f224 = some af_f224 := theAF_ok (by kernel_rfl)
noncomputable abbrev o_f225 := tr [(8,13),(15,18),(27,27)] false [(4,opl 9)] 0 Proofs.Tryz.f225
noncomputable def af_f225 := theAF o_f225
theorem tr_f225 : o_f225 = some af_f225 := theAF_ok (by kernel_rfl)
noncomputable abbrev o_f226 := tr [(5,7)] false [] 0 Proofs.Tryz.f226
noncomputable def af_f226 := theAF o_f226
theorem tr_f226 : o_f226 = some af_f226 := theAF_ok (by kernel_rfl)
noncomputable abbrev o_f227 := tr [(14,29)] false [(1,opl 6)] 0 Proofs.Tryz.f227
noncomputable def af_f227 := theAF o_f227
theorem tr_f227 : o_f227 = some af_f227 := theAF_ok (by kernel_rfl)
noncomputable abbrev o_f228 := tr [(29,32)] false [(1,opp [0,1,2,3,4,5,6,7,8,9,10,11,12,13,19,14,15,16,17,18,20,21,22]),(3,opp [0,1,2,3,4,5,6,7,8,10,11,12,9,13,14])] 0 Proofs.Tryz.f228
noncomputable def af_f228 := theAF o_f228
theorem tr_f228 : o_f228 = some af_f228 := theAF_ok (by kernel_rfl)
noncomputable abbrev o_f229 := tr [] false [(1,opl 12)] 0 Proofs.Tryz.f229
noncomputable def af_f229 := theAF o_f229
theorem tr_f229 : o_f229 = some af_f229 := theAF_ok (by kernel_rfl)
noncomputable abbrev o_f230 := tr [(6,6),(9,15),(17,21),(23,33)] false [] 0 Proofs.Tryz.f230
noncomputable def af_f230 := theAF o_f230
theorem tr_f230 : o_f230 = some af_f230 := theAF_ok (by kernel_rfl)
noncomputable abbrev o_f231 := tr [(5,10),(12,24)] false [] 0 Proofs.Tryz.f231
noncomputable def af_f231 := theAF o_f231
theorem tr_f231 : o_f231 = some af_f231 := theAF_ok (by kernel_rfl)
noncomputable abbrev o_f232 := tr [(5,5),(7,11),(13,18)] false [] 0 Proofs.Tryz.f232
noncomputable def af_f232 := theAF o_f232
theorem tr_f232 : o_f232 = some af_f232 := theAF_ok (by kernel_rfl)
noncomputable abbrev o_f233 := tr [(9,9),(12,18),(20,26),(28,34),(36,42),(44,50),(52,56),(58,62),(64,71),(73,87)] false [] 0 Proofs.Tryz.f233
noncomputable def af_f233 := theAF o_f233
theorem tr_f233 : o_f233 = some af_f233 := theAF_ok (by kernel_rfl)
noncomputable abbrev o_f239 := tr [(11,15),(17,19),(27,27)] false [(4,opl 8)] 0 Proofs.Tryz.f239
noncomputable def af_f239 := theAF o_f239
theorem tr_f239 : o_f239 = some af_f239 := theAF_ok (by kernel_rfl)
noncomputable abbrev o_f240 := tr [(2,5)] false [] 0 Proofs.Tryz.f240
noncomputable def af_f240 := theAF o_f240
theorem tr_f240 : o_f240 = some af_f240 := theAF_ok (by kernel_rfl)
noncomputable abbrev o_f241 := tr [(6,10),(12,13),(23,23)] false [(5,opl 10)] 0 Proofs.Tryz.f241
noncomputable def af_f241 := theAF o_f241
theorem tr_f241 : o_f241 = some af_f241 := theAF_ok (by kernel_rfl)
noncomputable abbrev o_f242 := tr [(12,19),(21,22),(24,57)] false [] 0 Proofs.Tryz.f242
noncomputable def af_f242 := theAF o_f242
theorem tr_f242 : o_f242 = some af_f242 := theAF_ok (by kernel_rfl)
noncomputable abbrev o_f243 := tr [(12,19),(21,22),(24,57)] false [] 0 Proofs.Tryz.f243
noncomputable def af_f243 := theAF o_f243
theorem tr_f243 : o_f243 = some af_f243 := theAF_ok (by kernel_rfl)
noncomputable abbrev o_f244 := tr [(10,19),(25,27),(44,44)] false [(5,opp [0,1,2,3,4,5,6,7,8,9,10,11,13,14,12,15])] 0 Proofs.Tryz.f244
noncomputable def af_f244 := theAF o_f244
theorem tr_f244 : o_f244 = some af_f244 := theAF_ok (by kernel_rfl)
noncomputable abbrev o_f245 := tr [(8,13),(15,18),(27,27)] false [(4,opl 9)] 0 Proofs.Tryz.f245
noncomputable def af_f245 := theAF o_f245
theorem tr_f245 : o_f245 = some af_f245 := theAF_ok (by kernel_rfl)
noncomputable abbrev o_f246 := tr [(5,7)] false [] 0 Proofs.Tryz.f246
noncomputable def af_f246 := theAF o_f246
theorem tr_f246 : o_f246 = some af_f246 := theAF_ok (by kernel_rfl)
noncomputable abbrev o_f247 := tr [(5,8)] false [] 0 Proofs.Tryz.f247
noncomputable def af_f247 := theAF o_f247
theorem tr_f247 : o_f247 = some af_f247 := theAF_ok (by kernel_rfl)
noncomputable abbrev o_f248 := tr [(2,3),(11,12)] false [(1,opl 6)] 0 Proofs.Tryz.f248
noncomputable def af_f248 := theAF o_f248
theorem tr_f248 : o_f248 = some af_f248 := theAF_ok (by kernel_rfl)
noncomputable abbrev o_f249 := tr [(2,3),(5,6)] false [(2,opl 6)] 0 Proofs.Tryz.f249
noncomputable def af_f249 := theAF o_f249
theorem tr_f249 : o_f249 = some af_f249 := theAF_ok (by kernel_rfl)
noncomputable abbrev o_f250 := tr [(8,13),(15,18),(27,27)] false [(4,opl 9)] 0 Proofs.Tryz.f250
noncomputable def af_f250 := theAF o_f250
theorem tr_f250 : o_f250 = some af_f250 := theAF_ok (by kernel_rfl)
noncomputable abbrev o_f251 := tr [(5,16)] false [] 0 Proofs.Tryz.f251
noncomputable def af_f251 := theAF o_f251
theorem tr_f251 : o_f251 = some af_f251 := theAF_ok (by kernel_rfl)
noncomputable abbrev o_f252 := tr [(8,13),(15,18),(27,27)] false [(4,opl 9)] 0 Proofs.Tryz.f252
noncomputable def af_f252 := theAF o_f252
theorem tr_f252 : o_f252 = some af_f252 := theAF_ok (by kernel_rfl)
noncomputable abbrev o_f253 := tr [(5,7)] false [] 0 Proofs.Tryz.f253
noncomputable def af_f253 := theAF o_f253
theorem tr_f253 : o_f253 = some af_f253 := theAF_ok (by kernel_rfl)
noncomputable abbrev o_f256 := tr [(2,5)] false [] 0 Proofs.Tryz.f256
noncomputable def af_f256 := theAF o_f256
theorem tr_f256 : o_f256 = some af_f256 := theAF_ok (by kernel_rfl)
noncomputable abbrev o_f257 := tr [(9,12),(14,15),(25,25)] false [(4,opl 10)] 0 Proofs.Tryz.f257
noncomputable def af_f257 := theAF o_f257
theorem tr_f257 : o_f257 = some af_f257 := theAF_ok (by kernel_rfl)
noncomputable abbrev o_f258 := tr [(2,6)] false [] 0 Proofs.Tryz.f258
noncomputable def af_f258 := theAF o_f258
theorem tr_f258 : o_f258 = some af_f258 := theAF_ok (by kernel_rfl)
noncomputable abbrev o_f259 := tr [(9,15),(20,25),(27,30),(42,46),(48,51),(62,62)] true [(8,opl 15),(16,opp [0,1,2,3,6,7,4,5,8,9])] 210 Proofs.Tryz.f259
noncomputable def af_f259 := theAF o_f259
theorem tr_f259 : o_f259 = some af_f259 := theAF_ok (by kernel_rfl)
noncomputable abbrev o_f260 := tr [(11,12),(14,15)] false [(3,opl 24)] 0 Proofs.Tryz.f260
noncomputable def af_f260 := theAF o_f260
theorem tr_f260 : o_f260 = some af_f260 := theAF_ok (by kernel_rfl)
noncomputable abbrev o_f261 := tr [(11,12),(14,15)] false [(3,opl 24)] 0 Proofs.Tryz.f261
noncomputable def af_f261 := theAF o_f261
theorem tr_f261 : o_f261 = some af_f261 := theAF_ok (by kernel_rfl)
noncomputable abbrev o_f262 := tr [(6,6),(10,15),(17,18)] false [] 0 Proofs.Tryz.f262
noncomputable def af_f262 := theAF o_f262
theorem tr_f262 : o_f262 = some af_f262 := theAF_ok (by kernel_rfl)
noncomputable abbrev o_f263 := tr [(5,8)] false [] 0 Proofs.Tryz.f263
noncomputable def af_f263 := theAF o_f263
theorem tr_f263 : o_f263 = some af_f263 := theAF_ok (by kernel_rfl)
noncomputable abbrev o_f264 := tr [(6,6),(10,15),(17,18)] false [] 0 Proofs.Tryz.f264
noncomputable def af_f264 := theAF o_f264
theorem tr_f264 : o_f264 = some af_f264 := theAF_ok (by kernel_rfl)
noncomputable abbrev o_f265 := tr [(5,8)] false [] 0 Proofs.Tryz.f265
noncomputable def af_f265 := theAF o_f265
theorem tr_f265 : o_f265 = some af_f265 := theAF_ok (by kernel_rfl)
noncomputable abbrev o_f266 := tr [(6,6),(10,15),(17,18)] false [] 0 Proofs.Tryz.f266
noncomputable def af_f266 := theAF o_f266
theorem tr_f266 : o_f266 = some af_f266 := theAF_ok (by kernel_rfl)
noncomputable abbrev o_f267 := tr [(5,8)] false [] 0 Proofs.Tryz.f267
noncomputable def af_f267 := theAF o_f267
theorem tr_f267 : o_f267 = some af_f267 := theAF_ok (by kernel_rfl)
noncomputable abbrev o_f268 := tr [(5,14),(16,17),(24,26),(28,33)] false [(5,opl 7)] 0 Proofs.Tryz.f268
noncomputable def af_f268 := theAF o_f268
theorem tr_f268 : o_f268 = some af_f268 := theAF_ok (by kernel_rfl)
noncomputable abbrev o_f269 := tr [(5,15),(17,20),(22,26),(32,36),(42,59),(61,63),(65,67),(69,71),(73,75),(77,83),(85,95),(97,98),(100,107)] false [(8,opl 6),(11,opl 6)] 0 Proofs.Tryz.f269
noncomputable def af_f269 := theAF o_f269
theorem tr_f269 : o_f269 = some af_f269 := theAF_ok (by kernel_rfl)
noncomputable abbrev o_f270 := tr [(8,8),(10,18),(20,24)] false [(6,opl 9)] 0 Proofs.Tryz.f270
noncomputable def af_f270 := theAF o_f270
theorem tr_f270 : o_f270 = some af_f270 := theAF_ok (by kernel_rfl)
noncomputable abbrev o_f271 := tr [(4,12),(14,15),(17,29)] false [] 0 Proofs.Tryz.f271
noncomputable def af_f271 := theAF o_f271
theorem tr_f271 : o_f271 = some af_f271 := theAF_ok (by kernel_rfl)
noncomputable def F : T AF := (.n none (.n none (.n none (.n (some af_f7) (.n (some af_f15) (.n (some af_f31) (.n (some af_f63) (.n (some af_f127) .e .e) (.n (some af_f191) .e .e)) (.n (some af_f95) (.n (some af_f159) .e .e) (.n (some af_f223) .e .e))) (.n (some af_f47) (.n none (.n (some af_f143) (.n (some af_f271) .e .e) .e) .e) (.n none (.n (some af_f175) .e .e) (.n (some af_f239) .e .e)))) (.n (some af_f23) (.n (some af_f39) (.n (some af_f71) (.n (some af_f135) (.n (some af_f263) .e .e) .e) (.n (some af_f199) .e .e)) (.n (some af_f103) (.n (some af_f167) .e .e) (.n (some af_f231) .e .e))) (.n none (.n (some af_f87) (.n (some af_f151) .e .e) (.n (some af_f215) .e .e)) (.n (some af_f119) (.n (some af_f183) .e .e) (.n (some af_f247) .e .e))))) (.n (some af_f11) (.n (some af_f19) (.n (some af_f35) (.n (some af_f67) (.n (some af_f131) (.n (some af_f259) .e .e) .e) (.n (some af_f195) .e .e)) (.n (some af_f99) (.n (some af_f163) .e .e) (.n (some af_f227) .e .e))) (.n (some af_f51) (.n (some af_f83) (.n (some af_f147) .e .e) (.n (some af_f211) .e .e)) (.n none (.n (some af_f179) .e .e) (.n (some af_f243) .e .e)))) (.n (some af_f27) (.n (some af_f43) (.n (some af_f75) (.n (some af_f139) (.n (some af_f267) .e .e) .e) (.n (some af_f203) .e .e)) (.n (some af_f107) (.n (some af_f171) .e .e) .e)) (.n none (.n (some af_f91) (.n (some af_f155) .e .e) (.n (some af_f219) .e .e)) (.n (some af_f123) (.n (some af_f187) .e .e) (.n (some af_f251) .e .e)))))) (.n (some af_f5) (.n none (.n (some af_f17) (.n (some af_f33) (.n (some af_f65) (.n none (.n (some af_f257) .e .e) .e) (.n (some af_f193) .e .e)) (.n (some af_f97) (.n (some af_f161) .e .e) (.n (some af_f225) .e .e))) (.n (some af_f49) (.n (some af_f81) (.n (some af_f145) .e .e) .e) (.n (some af_f113) (.n (some af_f177) .e .e) (.n (some af_f241) .e .e)))) (.n none (.n (some af_f41) (.n (some af_f73) (.n (some af_f137) (.n (some af_f265) .e .e) .e) (.n (some af_f201) .e .e)) (.n (some af_f105) (.n (some af_f169) .e .e) (.n (some af_f233) .e .e))) (.n none (.n (some af_f89) (.n (some af_f153) .e .e) (.n (some af_f217) .e .e)) (.n (some af_f121) (.n (some af_f185) .e .e) (.n (some af_f249) .e .e))))) (.n (some af_f13) (.n (some af_f21) (.n none (.n (some af_f69) (.n (some af_f133) (.n (some af_f261) .e .e) .e) (.n (some af_f197) .e .e)) (.n (some af_f101) (.n (some af_f165) .e .e) (.n (some af_f229) .e .e))) (.n (some af_f53) (.n (some af_f85) (.n (some af_f149) .e .e) (.n (some af_f213) .e .e)) (.n (some af_f117) (.n (some af_f181) .e .e) (.n (some af_f245) .e .e)))) (.n (some af_f29) (.n (some af_f45) (.n (some af_f77) (.n (some af_f141) (.n (some af_f269) .e .e) .e) .e) (.n (some af_f109) (.n (some af_f173) .e .e) .e)) (.n none (.n (some af_f93) (.n (some af_f157) .e .e) (.n (some af_f221) .e .e)) (.n (some af_f125) (.n (some af_f189) .e .e) (.n (some af_f253) .e .e))))))) (.n none (.n none (.n (some af_f8) (.n (some af_f16) (.n (some af_f32) (.n (some af_f64) (.n (some af_f128) (.n (some af_f256) .e .e) .e) (.n (some af_f192) .e .e)) (.n (some af_f96) (.n (some af_f160) .e .e) (.n (some af_f224) .e .e))) (.n (some af_f48) (.n (some af_f80) (.n (some af_f144) .e .e) .e) (.n none (.n (some af_f176) .e .e) (.n (some af_f240) .e .e)))) (.n none (.n (some af_f40) (.n (some af_f72) (.n (some af_f136) (.n (some af_f264) .e .e) .e) (.n (some af_f200) .e .e)) (.n (some af_f104) (.n (some af_f168) .e .e) (.n (some af_f232) .e .e))) (.n (some af_f56) (.n (some af_f88) (.n (some af_f152) .e .e) (.n (some af_f216) .e .e)) (.n (some af_f120) (.n (some af_f184) .e .e) (.n (some af_f248) .e .e))))) (.n none (.n (some af_f20) (.n (some af_f36) (.n (some af_f68) (.n (some af_f132) (.n (some af_f260) .e .e) .e) (.n (some af_f196) .e .e)) (.n (some af_f100) (.n (some af_f164) .e .e) (.n (some af_f228) .e .e))) (.n (some af_f52) (.n (some af_f84) (.n (some af_f148) .e .e) (.n (some af_f212) .e .e)) (.n (some af_f116) .e (.n (some af_f244) .e .e)))) (.n (some af_f28) (.n (some af_f44) (.n (some af_f76) (.n (some af_f140) (.n (some af_f268) .e .e) .e) (.n (some af_f204) .e .e)) (.n (some af_f108) (.n (some af_f172) .e .e) .e)) (.n none (.n (some af_f92) .e (.n (some af_f220) .e .e)) (.n (some af_f124) (.n (some af_f188) .e .e) (.n (some af_f252) .e .e)))))) (.n (some af_f6) (.n (some af_f10) (.n none (.n (some af_f34) (.n (some af_f66) (.n (some af_f130) (.n (some af_f258) .e .e) .e) (.n (some af_f194) .e .e)) (.n (some af_f98) (.n (some af_f162) .e .e) (.n (some af_f226) .e .e))) (.n (some af_f50) (.n (some af_f82) (.n (some af_f146) .e .e) (.n (some af_f210) .e .e)) (.n none (.n (some af_f178) .e .e) (.n (some af_f242) .e .e)))) (.n (some af_f26) (.n (some af_f42) (.n (some af_f74) (.n (some af_f138) (.n (some af_f266) .e .e) .e) (.n (some af_f202) .e .e)) (.n (some af_f106) (.n (some af_f170) .e .e) .e)) (.n none (.n (some af_f90) (.n (some af_f154) .e .e) (.n (some af_f218) .e .e)) (.n (some af_f122) (.n (some af_f186) .e .e) (.n (some af_f250) .e .e))))) (.n (some af_f14) (.n (some af_f22) (.n (some af_f38) (.n (some af_f70) (.n (some af_f134) (.n (some af_f262) .e .e) .e) (.n (some af_f198) .e .e)) (.n (some af_f102) .e (.n (some af_f230) .e .e))) (.n (some af_f54) (.n (some af_f86) (.n (some af_f150) .e .e) (.n (some af_f214) .e .e)) (.n (some af_f118) (.n (some af_f182) .e .e) (.n (some af_f246) .e .e)))) (.n (some af_f30) (.n (some af_f46) (.n none (.n (some af_f142) (.n (some af_f270) .e .e) .e) .e) (.n (some af_f110) (.n (some af_f174) .e .e) .e)) (.n (some af_f62) (.n (some af_f94) (.n (some af_f158) .e .e) (.n (some af_f222) .e .e)) (.n (some af_f126) (.n (some af_f190) .e .e) .e)))))))
theorem at_f5 : T.get F 5 = some af_f5 := by kernel_rfl
theorem at_f6 : T.get F 6 = some af_f6 := by kernel_rfl
theorem at_f7 : T.get F 7 = some af_f7 := by kernel_rfl
theorem at_f8 : T.get F 8 = some af_f8 := by kernel_rfl
theorem at_f10 : T.get F 10 = some af_f10 := by kernel_rfl
theorem at_f11 : T.get F 11 = some af_f11 := by kernel_rfl
theorem at_f13 : T.get F 13 = some af_f13 := by kernel_rfl
theorem at_f14 : T.get F 14 = some af_f14 := by kernel_rfl
theorem at_f15 : T.get F 15 = some af_f15 := by kernel_rfl
theorem at_f16 : T.get F 16 = some af_f16 := by kernel_rfl
theorem at_f17 : T.get F 17 = some af_f17 := by kernel_rfl
theorem at_f19 : T.get F 19 = some af_f19 := by kernel_rfl
theorem at_f20 : T.get F 20 = some af_f20 := by kernel_rfl
theorem at_f21 : T.get F 21 = some af_f21 := by kernel_rfl
theorem at_f22 : T.get F 22 = some af_f22 := by kernel_rfl
theorem at_f23 : T.get F 23 = some af_f23 := by kernel_rfl
theorem at_f26 : T.get F 26 = some af_f26 := by kernel_rfl
theorem at_f27 : T.get F 27 = some af_f27 := by kernel_rfl
theorem at_f28 : T.get F 28 = some af_f28 := by kernel_rfl
theorem at_f29 : T.get F 29 = some af_f29 := by kernel_rfl
theorem at_f30 : T.get F 30 = some af_f30 := by kernel_rfl
theorem at_f31 : T.get F 31 = some af_f31 := by kernel_rfl
theorem at_f32 : T.get F 32 = some af_f32 := by kernel_rfl
theorem at_f33 : T.get F 33 = some af_f33 := by kernel_rfl
theorem at_f34 : T.get F 34 = some af_f34 := by kernel_rfl
theorem at_f35 : T.get F 35 = some af_f35 := by kernel_rfl
theorem at_f36 : T.get F 36 = some af_f36 := by kernel_rfl
theorem at_f38 : T.get F 38 = some af_f38 := by kernel_rfl
theorem at_f39 : T.get F 39 = some af_f39 := by kernel_rfl
theorem at_f40 : T.get F 40 = some af_f40 := by kernel_rfl
theorem at_f41 : T.get F 41 = some af_f41 := by kernel_rfl
theorem at_f42 : T.get F 42 = some af_f42 := by kernel_rfl
theorem at_f43 : T.get F 43 = some af_f43 := by kernel_rfl
theorem at_f44 : T.get F 44 = some af_f44 := by kernel_rfl
theorem at_f45 : T.get F 45 = some af_f45 := by kernel_rfl
theorem at_f46 : T.get F 46 = some af_f46 := by kernel_rfl
theorem at_f47 : T.get F 47 = some af_f47 := by kernel_rfl
theorem at_f48 : T.get F 48 = some af_f48 := by kernel_rfl
theorem at_f49 : T.get F 49 = some af_f49 := by kernel_rfl
theorem at_f50 : T.get F 50 = some af_f50 := by kernel_rfl
theorem at_f51 : T.get F 51 = some af_f51 := by kernel_rfl
theorem at_f52 : T.get F 52 = some af_f52 := by kernel_rfl
theorem at_f53 : T.get F 53 = some af_f53 := by kernel_rfl
theorem at_f54 : T.get F 54 = some af_f54 := by kernel_rfl
theorem at_f56 : T.get F 56 = some af_f56 := by kernel_rfl
theorem at_f62 : T.get F 62 = some af_f62 := by kernel_rfl
theorem at_f63 : T.get F 63 = some af_f63 := by kernel_rfl
theorem at_f64 : T.get F 64 = some af_f64 := by kernel_rfl
theorem at_f65 : T.get F 65 = some af_f65 := by kernel_rfl
theorem at_f66 : T.get F 66 = some af_f66 := by kernel_rfl
theorem at_f67 : T.get F 67 = some af_f67 := by kernel_rfl
theorem at_f68 : T.get F 68 = some af_f68 := by kernel_rfl
theorem at_f69 : T.get F 69 = some af_f69 := by kernel_rfl
theorem at_f70 : T.get F 70 = some af_f70 := by kernel_rfl
theorem at_f71 : T.get F 71 = some af_f71 := by kernel_rfl
theorem at_f72 : T.get F 72 = some af_f72 := by kernel_rfl
theorem at_f73 : T.get F 73 = some af_f73 := by kernel_rfl
theorem at_f74 : T.get F 74 = some af_f74 := by kernel_rfl
theorem at_f75 : T.get F 75 = some af_f75 := by kernel_rfl
theorem at_f76 : T.get F 76 = some af_f76 := by kernel_rfl
theorem at_f77 : T.get F 77 = some af_f77 := by kernel_rfl
theorem at_f80 : T.get F 80 = some af_f80 := by kernel_rfl
theorem at_f81 : T.get F 81 = some af_f81 := by kernel_rfl
theorem at_f82 : T.get F 82 = some af_f82 := by kernel_rfl
theorem at_f83 : T.get F 83 = some af_f83 := by kernel_rfl
theorem at_f84 : T.get F 84 = some af_f84 := by kernel_rfl
theorem at_f85 : T.get F 85 = some af_f85 := by kernel_rfl
theorem at_f86 : T.get F 86 = some af_f86 := by kernel_rfl
theorem at_f87 : T.get F 87 = some af_f87 := by kernel_rfl
theorem at_f88 : T.get F 88 = some af_f88 := by kernel_rfl
theorem at_f89 : T.get F 89 = some af_f89 := by kernel_rfl
theorem at_f90 : T.get F 90 = some af_f90 := by kernel_rfl
theorem at_f91 : T.get F 91 = some af_f91 := by kernel_rfl
theorem at_f92 : T.get F 92 = some af_f92 := by kernel_rfl
theorem at_f93 : T.get F 93 = some af_f93 := by kernel_rfl
theorem at_f94 : T.get F 94 = some af_f94 := by kernel_rfl
theorem at_f95 : T.get F 95 = some af_f95 := by kernel_rfl
theorem at_f96 : T.get F 96 = some af_f96 := by kernel_rfl
theorem at_f97 : T.get F 97 = some af_f97 := by kernel_rfl
theorem at_f98 : T.get F 98 = some af_f98 := by kernel_rfl
theorem at_f99 : T.get F 99 = some af_f99 := by kernel_rfl
theorem at_f100 : T.get F 100 = some af_f100 := by kernel_rfl
theorem at_f101 : T.get F 101 = some af_f101 := by kernel_rfl
theorem at_f102 : T.get F 102 = some af_f102 := by kernel_rfl
theorem at_f103 : T.get F 103 = some af_f103 := by kernel_rfl
theorem at_f104 : T.get F 104 = some af_f104 := by kernel_rfl
theorem at_f105 : T.get F 105 = some af_f105 := by kernel_rfl
theorem at_f106 : T.get F 106 = some af_f106 := by kernel_rfl
theorem at_f107 : T.get F 107 = some af_f107 := by kernel_rfl
theorem at_f108 : T.get F 108 = some af_f108 := by kernel_rfl
theorem at_f109 : T.get F 109 = some af_f109 := by kernel_rfl
theorem at_f110 : T.get F 110 = some af_f110 := by kernel_rfl
theorem at_f113 : T.get F 113 = some af_f113 := by kernel_rfl
theorem at_f116 : T.get F 116 = some af_f116 := by kernel_rfl
theorem at_f117 : T.get F 117 = some af_f117 := by kernel_rfl
theorem at_f118 : T.get F 118 = some af_f118 := by kernel_rfl
theorem at_f119 : T.get F 119 = some af_f119 := by kernel_rfl
theorem at_f120 : T.get F 120 = some af_f120 := by kernel_rfl
theorem at_f121 : T.get F 121 = some af_f121 := by kernel_rfl
theorem at_f122 : T.get F 122 = some af_f122 := by kernel_rfl
theorem at_f123 : T.get F 123 = some af_f123 := by kernel_rfl
theorem at_f124 : T.get F 124 = some af_f124 := by kernel_rfl
theorem at_f125 : T.get F 125 = some af_f125 := by kernel_rfl
theorem at_f126 : T.get F 126 = some af_f126 := by kernel_rfl
theorem at_f127 : T.get F 127 = some af_f127 := by kernel_rfl
theorem at_f128 : T.get F 128 = some af_f128 := by kernel_rfl
theorem at_f130 : T.get F 130 = some af_f130 := by kernel_rfl
theorem at_f131 : T.get F 131 = some af_f131 := by kernel_rfl
theorem at_f132 : T.get F 132 = some af_f132 := by kernel_rfl
theorem at_f133 : T.get F 133 = some af_f133 := by kernel_rfl
theorem at_f134 : T.get F 134 = some af_f134 := by kernel_rfl
theorem at_f135 : T.get F 135 = some af_f135 := by kernel_rfl
theorem at_f136 : T.get F 136 = some af_f136 := by kernel_rfl
theorem at_f137 : T.get F 137 = some af_f137 := by kernel_rfl
theorem at_f138 : T.get F 138 = some af_f138 := by kernel_rfl
theorem at_f139 : T.get F 139 = some af_f139 := by kernel_rfl
theorem at_f140 : T.get F 140 = some af_f140 := by kernel_rfl
theorem at_f141 : T.get F 141 = some af_f141 := by kernel_rfl
theorem at_f142 : T.get F 142 = some af_f142 := by kernel_rfl
theorem at_f143 : T.get F 143 = some af_f143 := by kernel_rfl
theorem at_f144 : T.get F 144 = some af_f144 := by kernel_rfl
theorem at_f145 : T.get F 145 = some af_f145 := by kernel_rfl
theorem at_f146 : T.get F 146 = some af_f146 := by kernel_rfl
theorem at_f147 : T.get F 147 = some af_f147 := by kernel_rfl
theorem at_f148 : T.get F 148 = some af_f148 := by kernel_rfl
theorem at_f149 : T.get F 149 = some af_f149 := by kernel_rfl
theorem at_f150 : T.get F 150 = some af_f150 := by kernel_rfl
theorem at_f151 : T.get F 151 = some af_f151 := by kernel_rfl
theorem at_f152 : T.get F 152 = some af_f152 := by kernel_rfl
theorem at_f153 : T.get F 153 = some af_f153 := by kernel_rfl
theorem at_f154 : T.get F 154 = some af_f154 := by kernel_rfl
theorem at_f155 : T.get F 155 = some af_f155 := by kernel_rfl
theorem at_f157 : T.get F 157 = some af_f157 := by kernel_rfl
theorem at_f158 : T.get F 158 = some af_f158 := by kernel_rfl
theorem at_f159 : T.get F 159 = some af_f159 := by kernel_rfl
theorem at_f160 : T.get F 160 = some af_f160 := by kernel_rfl
theorem at_f161 : T.get F 161 = some af_f161 := by kernel_rfl
theorem at_f162 : T.get F 162 = some af_f162 := by kernel_rfl
theorem at_f163 : T.get F 163 = some af_f163 := by kernel_rfl
theorem at_f164 : T.get F 164 = some af_f164 := by kernel_rfl
theorem at_f165 : T.get F 165 = some af_f165 := by kernel_rfl
theorem at_f167 : T.get F 167 = some af_f167 := by kernel_rfl
theorem at_f168 : T.get F 168 = some af_f168 := by kernel_rfl
theorem at_f169 : T.get F 169 = some af_f169 := by kernel_rfl
theorem at_f170 : T.get F 170 = some af_f170 := by kernel_rfl
theorem at_f171 : T.get F 171 = some af_f171 := by kernel_rfl
theorem at_f172 : T.get F 172 = some af_f172 := by kernel_rfl
theorem at_f173 : T.get F 173 = some af_f173 := by kernel_rfl
theorem at_f174 : T.get F 174 = some af_f174 := by kernel_rfl
theorem at_f175 : T.get F 175 = some af_f175 := by kernel_rfl
theorem at_f176 : T.get F 176 = some af_f176 := by kernel_rfl
theorem at_f177 : T.get F 177 = some af_f177 := by kernel_rfl
theorem at_f178 : T.get F 178 = some af_f178 := by kernel_rfl
theorem at_f179 : T.get F 179 = some af_f179 := by kernel_rfl
theorem at_f181 : T.get F 181 = some af_f181 := by kernel_rfl
theorem at_f182 : T.get F 182 = some af_f182 := by kernel_rfl
theorem at_f183 : T.get F 183 = some af_f183 := by kernel_rfl
theorem at_f184 : T.get F 184 = some af_f184 := by kernel_rfl
theorem at_f185 : T.get F 185 = some af_f185 := by kernel_rfl
theorem at_f186 : T.get F 186 = some af_f186 := by kernel_rfl
theorem at_f187 : T.get F 187 = some af_f187 := by kernel_rfl
theorem at_f188 : T.get F 188 = some af_f188 := by kernel_rfl
theorem at_f189 : T.get F 189 = some af_f189 := by kernel_rfl
theorem at_f190 : T.get F 190 = some af_f190 := by kernel_rfl
theorem at_f191 : T.get F 191 = some af_f191 := by kernel_rfl
theorem at_f192 : T.get F 192 = some af_f192 := by kernel_rfl
theorem at_f193 : T.get F 193 = some af_f193 := by kernel_rfl
theorem at_f194 : T.get F 194 = some af_f194 := by kernel_rfl
theorem at_f195 : T.get F 195 = some af_f195 := by kernel_rfl
theorem at_f196 : T.get F 196 = some af_f196 := by kernel_rfl
theorem at_f197 : T.get F 197 = some af_f197 := by kernel_rfl
theorem at_f198 : T.get F 198 = some af_f198 := by kernel_rfl
theorem at_f199 : T.get F 199 = some af_f199 := by kernel_rfl
theorem at_f200 : T.get F 200 = some af_f200 := by kernel_rfl
theorem at_f201 : T.get F 201 = some af_f201 := by kernel_rfl
theorem at_f202 : T.get F 202 = some af_f202 := by kernel_rfl
theorem at_f203 : T.get F 203 = some af_f203 := by kernel_rfl
theorem at_f204 : T.get F 204 = some af_f204 := by kernel_rfl
theorem at_f210 : T.get F 210 = some af_f210 := by kernel_rfl
theorem at_f211 : T.get F 211 = some af_f211 := by kernel_rfl
theorem at_f212 : T.get F 212 = some af_f212 := by kernel_rfl
theorem at_f213 : T.get F 213 = some af_f213 := by kernel_rfl
theorem at_f214 : T.get F 214 = some af_f214 := by kernel_rfl
theorem at_f215 : T.get F 215 = some af_f215 := by kernel_rfl
theorem at_f216 : T.get F 216 = some af_f216 := by kernel_rfl
theorem at_f217 : T.get F 217 = some af_f217 := by kernel_rfl
theorem at_f218 : T.get F 218 = some af_f218 := by kernel_rfl
theorem at_f219 : T.get F 219 = some af_f219 := by kernel_rfl
theorem at_f220 : T.get F 220 = some af_f220 := by kernel_rfl
theorem at_f221 : T.get F 221 = some af_f221 := by kernel_rfl
theorem at_f222 : T.get F 222 = some af_f222 := by kernel_rfl
theorem at_f223 : T.get F 223 = some af_f223 := by kernel_rfl
theorem at_f224 : T.get F 224 = some af_f224 := by kernel_rfl
theorem at_f225 : T.get F 225 = some af_f225 := by kernel_rfl
theorem at_f226 : T.get F 226 = some af_f226 := by kernel_rfl
theorem at_f227 : T.get F 227 = some af_f227 := by kernel_rfl
theorem at_f228 : T.get F 228 = some af_f228 := by kernel_rfl
theorem at_f229 : T.get F 229 = some af_f229 := by kernel_rfl
theorem at_f230 : T.get F 230 = some af_f230 := by kernel_rfl
theorem at_f231 : T.get F 231 = some af_f231 := by kernel_rfl
theorem at_f232 : T.get F 232 = some af_f232 := by kernel_rfl
theorem at_f233 : T.get F 233 = some af_f233 := by kernel_rfl
theorem at_f239 : T.get F 239 = some af_f239 := by kernel_rfl
theorem at_f240 : T.get F 240 = some af_f240 := by kernel_rfl
theorem at_f241 : T.get F 241 = some af_f241 := by kernel_rfl
theorem at_f242 : T.get F 242 = some af_f242 := by kernel_rfl
theorem at_f243 : T.get F 243 = some af_f243 := by kernel_rfl
theorem at_f244 : T.get F 244 = some af_f244 := by kernel_rfl
theorem at_f245 : T.get F 245 = some af_f245 := by kernel_rfl
theorem at_f246 : T.get F 246 = some af_f246 := by kernel_rfl
theorem at_f247 : T.get F 247 = some af_f247 := by kernel_rfl
theorem at_f248 : T.get F 248 = some af_f248 := by kernel_rfl
theorem at_f249 : T.get F 249 = some af_f249 := by kernel_rfl
theorem at_f250 : T.get F 250 = some af_f250 := by kernel_rfl
theorem at_f251 : T.get F 251 = some af_f251 := by kernel_rfl
theorem at_f252 : T.get F 252 = some af_f252 := by kernel_rfl
theorem at_f253 : T.get F 253 = some af_f253 := by kernel_rfl
theorem at_f256 : T.get F 256 = some af_f256 := by kernel_rfl
theorem at_f257 : T.get F 257 = some af_f257 := by kernel_rfl
theorem at_f258 : T.get F 258 = some af_f258 := by kernel_rfl
theorem at_f259 : T.get F 259 = some af_f259 := by kernel_rfl
theorem at_f260 : T.get F 260 = some af_f260 := by kernel_rfl
theorem at_f261 : T.get F 261 = some af_f261 := by kernel_rfl
theorem at_f262 : T.get F 262 = some af_f262 := by kernel_rfl
theorem at_f263 : T.get F 263 = some af_f263 := by kernel_rfl
theorem at_f264 : T.get F 264 = some af_f264 := by kernel_rfl
theorem at_f265 : T.get F 265 = some af_f265 := by kernel_rfl
theorem at_f266 : T.get F 266 = some af_f266 := by kernel_rfl
theorem at_f267 : T.get F 267 = some af_f267 := by kernel_rfl
theorem at_f268 : T.get F 268 = some af_f268 := by kernel_rfl
theorem at_f269 : T.get F 269 = some af_f269 := by kernel_rfl
theorem at_f270 : T.get F 270 = some af_f270 := by kernel_rfl
theorem at_f271 : T.get F 271 = some af_f271 := by kernel_rfl
end Go.R5

/- All functions are right. -/
namespace Go.R5
open Go.Eng
set_option maxRecDepth 100000
abbrev Fg (n : Nat) (a : AF) : Prop := FnGood Go.Proofs.Tryz.prog F n a
theorem good_f5 : Fg 5 af_f5 := .one Proofs.Tryz.func5 (by kernel_rfl) tr_f5 (by kernel_rfl) (by kernel_rfl)
theorem good_f6 : Fg 6 af_f6 := .one Proofs.Tryz.func6 (by kernel_rfl) tr_f6 (by kernel_rfl) (by kernel_rfl)
theorem good_f7 : Fg 7 af_f7 := .one Proofs.Tryz.func7 (by kernel_rfl) tr_f7 (by kernel_rfl) (by kernel_rfl)
theorem good_f8 : Fg 8 af_f8 := .one Proofs.Tryz.func8 (by kernel_rfl) tr_f8 (by kernel_rfl) (by kernel_rfl)
theorem good_f10 : Fg 10 af_f10 := .one Proofs.Tryz.func10 (by kernel_rfl) tr_f10 (by kernel_rfl) (by kernel_rfl)
theorem good_f11 : Fg 11 af_f11 := .one Proofs.Tryz.func11 (by kernel_rfl) tr_f11 (by kernel_rfl) (by kernel_rfl)
theorem good_f13 : Fg 13 af_f13 := .one Proofs.Tryz.func13 (by kernel_rfl) tr_f13 (by kernel_rfl) (by kernel_rfl)
theorem good_f14 : Fg 14 af_f14 := .one Proofs.Tryz.func14 (by kernel_rfl) tr_f14 (by kernel_rfl) (by kernel_rfl)
theorem good_f15 : Fg 15 af_f15 := .one Proofs.Tryz.func15 (by kernel_rfl) tr_f15 (by kernel_rfl) (by kernel_rfl)
theorem good_f16 : Fg 16 af_f16 := .one Proofs.Tryz.func16 (by kernel_rfl) tr_f16 (by kernel_rfl) (by kernel_rfl)
theorem good_f17 : Fg 17 af_f17 := .one Proofs.Tryz.func17 (by kernel_rfl) tr_f17 (by kernel_rfl) (by kernel_rfl)
theorem good_f19 : Fg 19 af_f19 := .one Proofs.Tryz.func19 (by kernel_rfl) tr_f19 (by kernel_rfl) (by kernel_rfl)
theorem good_f20 : Fg 20 af_f20 := .one Proofs.Tryz.func20 (by kernel_rfl) tr_f20 (by kernel_rfl) (by kernel_rfl)
theorem good_f21 : Fg 21 af_f21 := .one Proofs.Tryz.func21 (by kernel_rfl) tr_f21 (by kernel_rfl) (by kernel_rfl)
theorem good_f22 : Fg 22 af_f22 := .one Proofs.Tryz.func22 (by kernel_rfl) tr_f22 (by kernel_rfl) (by kernel_rfl)
theorem good_f23 : Fg 23 af_f23 := .one Proofs.Tryz.func23 (by kernel_rfl) tr_f23 (by kernel_rfl) (by kernel_rfl)
theorem good_f26 : Fg 26 af_f26 := .one Proofs.Tryz.func26 (by kernel_rfl) tr_f26 (by kernel_rfl) (by kernel_rfl)
theorem good_f27 : Fg 27 af_f27 := .one Proofs.Tryz.func27 (by kernel_rfl) tr_f27 (by kernel_rfl) (by kernel_rfl)
theorem good_f28 : Fg 28 af_f28 := .one Proofs.Tryz.func28 (by kernel_rfl) tr_f28 (by kernel_rfl) (by kernel_rfl)
theorem good_f29 : Fg 29 af_f29 := .one Proofs.Tryz.func29 (by kernel_rfl) tr_f29 (by kernel_rfl) (by kernel_rfl)
theorem good_f30 : Fg 30 af_f30 := .one Proofs.Tryz.func30 (by kernel_rfl) tr_f30 (by kernel_rfl) (by kernel_rfl)
theorem good_f31 : Fg 31 af_f31 := .one Proofs.Tryz.func31 (by kernel_rfl) tr_f31 (by kernel_rfl) (by kernel_rfl)
theorem good_f32 : Fg 32 af_f32 := .one Proofs.Tryz.func32 (by kernel_rfl) tr_f32 (by kernel_rfl) (by kernel_rfl)
theorem good_f33 : Fg 33 af_f33 := .one Proofs.Tryz.func33 (by kernel_rfl) tr_f33 (by kernel_rfl) (by kernel_rfl)
theorem good_f34 : Fg 34 af_f34 := .two Proofs.Tryz.func34 (by kernel_rfl) tr_f34 (by kernel_rfl) at_f75 (by kernel_rfl)
theorem good_f35 : Fg 35 af_f35 := .one Proofs.Tryz.func35 (by kernel_rfl) tr_f35 (by kernel_rfl) (by kernel_rfl)
theorem good_f36 : Fg 36 af_f36 := .one Proofs.Tryz.func36 (by kernel_rfl) tr_f36 (by kernel_rfl) (by kernel_rfl)
theorem good_f38 : Fg 38 af_f38 := .one Proofs.Tryz.func38 (by kernel_rfl) tr_f38 (by kernel_rfl) (by kernel_rfl)
theorem good_f39 : Fg 39 af_f39 := .one Proofs.Tryz.func39 (by kernel_rfl) tr_f39 (by kernel_rfl) (by kernel_rfl)
theorem good_f40 : Fg 40 af_f40 := .one Proofs.Tryz.func40 (by kernel_rfl) tr_f40 (by kernel_rfl) (by kernel_rfl)
theorem good_f41 : Fg 41 af_f41 := .one Proofs.Tryz.func41 (by kernel_rfl) tr_f41 (by kernel_rfl) (by kernel_rfl)
theorem good_f42 : Fg 42 af_f42 := .one Proofs.Tryz.func42 (by kernel_rfl) tr_f42 (by kernel_rfl) (by kernel_rfl)
theorem good_f43 : Fg 43 af_f43 := .one Proofs.Tryz.func43 (by kernel_rfl) tr_f43 (by kernel_rfl) (by kernel_rfl)
theorem good_f44 : Fg 44 af_f44 := .one Proofs.Tryz.func44 (by kernel_rfl) tr_f44 (by kernel_rfl) (by kernel_rfl)
theorem good_f45 : Fg 45 af_f45 := .one Proofs.Tryz.func45 (by kernel_rfl) tr_f45 (by kernel_rfl) (by kernel_rfl)
theorem good_f46 : Fg 46 af_f46 := .one Proofs.Tryz.func46 (by kernel_rfl) tr_f46 (by kernel_rfl) (by kernel_rfl)
theorem good_f47 : Fg 47 af_f47 := .one Proofs.Tryz.func47 (by kernel_rfl) tr_f47 (by kernel_rfl) (by kernel_rfl)
theorem good_f48 : Fg 48 af_f48 := .one Proofs.Tryz.func48 (by kernel_rfl) tr_f48 (by kernel_rfl) (by kernel_rfl)
theorem good_f49 : Fg 49 af_f49 := .one Proofs.Tryz.func49 (by kernel_rfl) tr_f49 (by kernel_rfl) (by kernel_rfl)
theorem good_f50 : Fg 50 af_f50 := .one Proofs.Tryz.func50 (by kernel_rfl) tr_f50 (by kernel_rfl) (by kernel_rfl)
theorem good_f51 : Fg 51 af_f51 := .one Proofs.Tryz.func51 (by kernel_rfl) tr_f51 (by kernel_rfl) (by kernel_rfl)
theorem good_f52 : Fg 52 af_f52 := .one Proofs.Tryz.func52 (by kernel_rfl) tr_f52 (by kernel_rfl) (by kernel_rfl)
theorem good_f53 : Fg 53 af_f53 := .one Proofs.Tryz.func53 (by kernel_rfl) tr_f53 (by kernel_rfl) (by kernel_rfl)
theorem good_f54 : Fg 54 af_f54 := .one Proofs.Tryz.func54 (by kernel_rfl) tr_f54 (by kernel_rfl) (by kernel_rfl)
theorem good_f56 : Fg 56 af_f56 := .one Proofs.Tryz.func56 (by kernel_rfl) tr_f56 (by kernel_rfl) (by kernel_rfl)
theorem good_f62 : Fg 62 af_f62 := .one Proofs.Tryz.func62 (by kernel_rfl) tr_f62 (by kernel_rfl) (by kernel_rfl)
theorem good_f63 : Fg 63 af_f63 := .one Proofs.Tryz.func63 (by kernel_rfl) tr_f63 (by kernel_rfl) (by kernel_rfl)
theorem good_f64 : Fg 64 af_f64 := .one Proofs.Tryz.func64 (by kernel_rfl) tr_f64 (by kernel_rfl) (by kernel_rfl)
theorem good_f65 : Fg 65 af_f65 := .one Proofs.Tryz.func65 (by kernel_rfl) tr_f65 (by kernel_rfl) (by kernel_rfl)
theorem good_f66 : Fg 66 af_f66 := .one Proofs.Tryz.func66 (by kernel_rfl) tr_f66 (by kernel_rfl) (by kernel_rfl)
theorem good_f67 : Fg 67 af_f67 := .one Proofs.Tryz.func67 (by kernel_rfl) tr_f67 (by kernel_rfl) (by kernel_rfl)
theorem good_f68 : Fg 68 af_f68 := .one Proofs.Tryz.func68 (by kernel_rfl) tr_f68 (by kernel_rfl) (by kernel_rfl)
theorem good_f69 : Fg 69 af_f69 := .one Proofs.Tryz.func69 (by kernel_rfl) tr_f69 (by kernel_rfl) (by kernel_rfl)
theorem good_f70 : Fg 70 af_f70 := .one Proofs.Tryz.func70 (by kernel_rfl) tr_f70 (by kernel_rfl) (by kernel_rfl)
theorem good_f71 : Fg 71 af_f71 := .one Proofs.Tryz.func71 (by kernel_rfl) tr_f71 (by kernel_rfl) (by kernel_rfl)
theorem good_f72 : Fg 72 af_f72 := .one Proofs.Tryz.func72 (by kernel_rfl) tr_f72 (by kernel_rfl) (by kernel_rfl)
theorem good_f73 : Fg 73 af_f73 := .one Proofs.Tryz.func73 (by kernel_rfl) tr_f73 (by kernel_rfl) (by kernel_rfl)
theorem good_f74 : Fg 74 af_f74 := .one Proofs.Tryz.func74 (by kernel_rfl) tr_f74 (by kernel_rfl) (by kernel_rfl)
theorem good_f75 : Fg 75 af_f75 := .one Proofs.Tryz.func75 (by kernel_rfl) tr_f75 (by kernel_rfl) (by kernel_rfl)
theorem good_f76 : Fg 76 af_f76 := .one Proofs.Tryz.func76 (by kernel_rfl) tr_f76 (by kernel_rfl) (by kernel_rfl)
theorem good_f77 : Fg 77 af_f77 := .one Proofs.Tryz.func77 (by kernel_rfl) tr_f77 (by kernel_rfl) (by kernel_rfl)
theorem good_f80 : Fg 80 af_f80 := .one Proofs.Tryz.func80 (by kernel_rfl) tr_f80 (by kernel_rfl) (by kernel_rfl)
theorem good_f81 : Fg 81 af_f81 := .one Proofs.Tryz.func81 (by kernel_rfl) tr_f81 (by kernel_rfl) (by kernel_rfl)
theorem good_f82 : Fg 82 af_f82 := .one Proofs.Tryz.func82 (by kernel_rfl) tr_f82 (by kernel_rfl) (by kernel_rfl)
theorem good_f83 : Fg 83 af_f83 := .one Proofs.Tryz.func83 (by kernel_rfl) tr_f83 (by kernel_rfl) (by kernel_rfl)
theorem good_f84 : Fg 84 af_f84 := .one Proofs.Tryz.func84 (by kernel_rfl) tr_f84 (by kernel_rfl) (by kernel_rfl)
theorem good_f85 : Fg 85 af_f85 := .one Proofs.Tryz.func85 (by kernel_rfl) tr_f85 (by kernel_rfl) (by kernel_rfl)
theorem good_f86 : Fg 86 af_f86 := .one Proofs.Tryz.func86 (by kernel_rfl) tr_f86 (by kernel_rfl) (by kernel_rfl)
theorem good_f87 : Fg 87 af_f87 := .one Proofs.Tryz.func87 (by kernel_rfl) tr_f87 (by kernel_rfl) (by kernel_rfl)
theorem good_f88 : Fg 88 af_f88 := .one Proofs.Tryz.func88 (by kernel_rfl) tr_f88 (by kernel_rfl) (by kernel_rfl)
theorem good_f89 : Fg 89 af_f89 := .one Proofs.Tryz.func89 (by kernel_rfl) tr_f89 (by kernel_rfl) (by kernel_rfl)
theorem good_f90 : Fg 90 af_f90 := .one Proofs.Tryz.func90 (by kernel_rfl) tr_f90 (by kernel_rfl) (by kernel_rfl)
theorem good_f91 : Fg 91 af_f91 := .one Proofs.Tryz.func91 (by kernel_rfl) tr_f91 (by kernel_rfl) (by kernel_rfl)
theorem good_f92 : Fg 92 af_f92 := .one Proofs.Tryz.func92 (by kernel_rfl) tr_f92 (by kernel_rfl) (by kernel_rfl)
theorem good_f93 : Fg 93 af_f93 := .one Proofs.Tryz.func93 (by kernel_rfl) tr_f93 (by kernel_rfl) (by kernel_rfl)
theorem good_f94 : Fg 94 af_f94 := .one Proofs.Tryz.func94 (by kernel_rfl) tr_f94 (by kernel_rfl) (by kernel_rfl)
theorem good_f95 : Fg 95 af_f95 := .one Proofs.Tryz.func95 (by kernel_rfl) tr_f95 (by kernel_rfl) (by kernel_rfl)
theorem good_f96 : Fg 96 af_f96 := .one Proofs.Tryz.func96 (by kernel_rfl) tr_f96 (by kernel_rfl) (by kernel_rfl)
theorem good_f97 : Fg 97 af_f97 := .one Proofs.Tryz.func97 (by kernel_rfl) tr_f97 (by kernel_rfl) (by kernel_rfl)
theorem good_f98 : Fg 98 af_f98 := .one Proofs.Tryz.func98 (by kernel_rfl) tr_f98 (by kernel_rfl) (by kernel_rfl)
theorem good_f99 : Fg 99 af_f99 := .one Proofs.Tryz.func99 (by kernel_rfl) tr_f99 (by kernel_rfl) (by kernel_rfl)
theorem good_f100 : Fg 100 af_f100 := .one Proofs.Tryz.func100 (by kernel_rfl) tr_f100 (by kernel_rfl) (by kernel_rfl)
theorem good_f101 : Fg 101 af_f101 := .one Proofs.Tryz.func101 (by kernel_rfl) tr_f101 (by kernel_rfl) (by kernel_rfl)
theorem good_f102 : Fg 102 af_f102 := .one Proofs.Tryz.func102 (by kernel_rfl) tr_f102 (by kernel_rfl) (by kernel_rfl)
theorem good_f103 : Fg 103 af_f103 := .one Proofs.Tryz.func103 (by kernel_rfl) tr_f103 (by kernel_rfl) (by kernel_rfl)
theorem good_f104 : Fg 104 af_f104 := .one Proofs.Tryz.func104 (by kernel_rfl) tr_f104 (by kernel_rfl) (by kernel_rfl)
theorem good_f105 : Fg 105 af_f105 := .one Proofs.Tryz.func105 (by kernel_rfl) tr_f105 (by kernel_rfl) (by kernel_rfl)
theorem good_f106 : Fg 106 af_f106 := .one Proofs.Tryz.func106 (by kernel_rfl) tr_f106 (by kernel_rfl) (by kernel_rfl)
theorem good_f107 : Fg 107 af_f107 := .one Proofs.Tryz.func107 (by kernel_rfl) tr_f107 (by kernel_rfl) (by kernel_rfl)
theorem good_f108 : Fg 108 af_f108 := .one Proofs.Tryz.func108 (by kernel_rfl) tr_f108 (by kernel_rfl) (by kernel_rfl)
theorem good_f109 : Fg 109 af_f109 := .one Proofs.Tryz.func109 (by kernel_rfl) tr_f109 (by kernel_rfl) (by kernel_rfl)
theorem good_f110 : Fg 110 af_f110 := .one Proofs.Tryz.func110 (by kernel_rfl) tr_f110 (by kernel_rfl) (by kernel_rfl)
theorem good_f113 : Fg 113 af_f113 := .one Proofs.Tryz.func113 (by kernel_rfl) tr_f113 (by kernel_rfl) (by kernel_rfl)
theorem good_f116 : Fg 116 af_f116 := .one Proofs.Tryz.func116 (by kernel_rfl) tr_f116 (by kernel_rfl) (by kernel_rfl)
theorem good_f117 : Fg 117 af_f117 := .one Proofs.Tryz.func117 (by kernel_rfl) tr_f117 (by kernel_rfl) (by kernel_rfl)
theorem good_f118 : Fg 118 af_f118 := .one Proofs.Tryz.func118 (by kernel_rfl) tr_f118 (by kernel_rfl) (by kernel_rfl)
theorem good_f119 : Fg 119 af_f119 := .one Proofs.Tryz.func119 (by kernel_rfl) tr_f119 (by kernel_rfl) (by kernel_rfl)
theorem good_f120 : Fg 120 af_f120 := .one Proofs.Tryz.func120 (by kernel_rfl) tr_f120 (by kernel_rfl) (by kernel_rfl)
theorem good_f121 : Fg 121 af_f121 := .one Proofs.Tryz.func121 (by kernel_rfl) tr_f121 (by kernel_rfl) (by kernel_rfl)
theorem good_f122 : Fg 122 af_f122 := .one Proofs.Tryz.func122 (by kernel_rfl) tr_f122 (by kernel_rfl) (by kernel_rfl)
theorem good_f123 : Fg 123 af_f123 := .one Proofs.Tryz.func123 (by kernel_rfl) tr_f123 (by kernel_rfl) (by kernel_rfl)
theorem good_f124 : Fg 124 af_f124 := .one Proofs.Tryz.func124 (by kernel_rfl) tr_f124 (by kernel_rfl) (by kernel_rfl)
theorem good_f125 : Fg 125 af_f125 := .one Proofs.Tryz.func125 (by kernel_rfl) tr_f125 (by kernel_rfl) (by kernel_rfl)
theorem good_f126 : Fg 126 af_f126 := .one Proofs.Tryz.func126 (by kernel_rfl) tr_f126 (by kernel_rfl) (by kernel_rfl)
theorem good_f127 : Fg 127 af_f127 := .one Proofs.Tryz.func127 (by kernel_rfl) tr_f127 (by kernel_rfl) (by kernel_rfl)
theorem good_f128 : Fg 128 af_f128 := .one Proofs.Tryz.func128 (by kernel_rfl) tr_f128 (by kernel_rfl) (by kernel_rfl)
theorem good_f130 : Fg 130 af_f130 := .one Proofs.Tryz.func130 (by kernel_rfl) tr_f130 (by kernel_rfl) (by kernel_rfl)
theorem good_f131 : Fg 131 af_f131 := .one Proofs.Tryz.func131 (by kernel_rfl) tr_f131 (by kernel_rfl) (by kernel_rfl)
theorem good_f132 : Fg 132 af_f132 := .one Proofs.Tryz.func132 (by kernel_rfl) tr_f132 (by kernel_rfl) (by kernel_rfl)
theorem good_f133 : Fg 133 af_f133 := .one Proofs.Tryz.func133 (by kernel_rfl) tr_f133 (by kernel_rfl) (by kernel_rfl)
theorem good_f134 : Fg 134 af_f134 := .one Proofs.Tryz.func134 (by kernel_rfl) tr_f134 (by kernel_rfl) (by kernel_rfl)
theorem good_f135 : Fg 135 af_f135 := .one Proofs.Tryz.func135 (by kernel_rfl) tr_f135 (by kernel_rfl) (by kernel_rfl)
theorem good_f136 : Fg 136 af_f136 := .one Proofs.Tryz.func136 (by kernel_rfl) tr_f136 (by kernel_rfl) (by kernel_rfl)
theorem good_f137 : Fg 137 af_f137 := .one Proofs.Tryz.func137 (by kernel_rfl) tr_f137 (by kernel_rfl) (by kernel_rfl)
theorem good_f138 : Fg 138 af_f138 := .one Proofs.Tryz.func138 (by kernel_rfl) tr_f138 (by kernel_rfl) (by kernel_rfl)
theorem good_f139 : Fg 139 af_f139 := .one Proofs.Tryz.func139 (by kernel_rfl) tr_f139 (by kernel_rfl) (by kernel_rfl)
theorem good_f140 : Fg 140 af_f140 := .one Proofs.Tryz.func140 (by kernel_rfl) tr_f140 (by kernel_rfl) (by kernel_rfl)
theorem good_f141 : Fg 141 af_f141 := .one Proofs.Tryz.func141 (by kernel_rfl) tr_f141 (by kernel_rfl) (by kernel_rfl)
theorem good_f142 : Fg 142 af_f142 := .two Proofs.Tryz.func142 (by kernel_rfl) tr_f142 (by kernel_rfl) at_f210 (by kernel_rfl)
theorem good_f143 : Fg 143 af_f143 := .one Proofs.Tryz.func143 (by kernel_rfl) tr_f143 (by kernel_rfl) (by kernel_rfl)
theorem good_f144 : Fg 144 af_f144 := .one Proofs.Tryz.func144 (by kernel_rfl) tr_f144 (by kernel_rfl) (by kernel_rfl)
theorem good_f145 : Fg 145 af_f145 := .one Proofs.Tryz.func145 (by kernel_rfl) tr_f145 (by kernel_rfl) (by kernel_rfl)
theorem good_f146 : Fg 146 af_f146 := .one Proofs.Tryz.func146 (by kernel_rfl) tr_f146 (by kernel_rfl) (by kernel_rfl)
theorem good_f147 : Fg 147 af_f147 := .one Proofs.Tryz.func147 (by kernel_rfl) tr_f147 (by kernel_rfl) (by kernel_rfl)
theorem good_f148 : Fg 148 af_f148 := .one Proofs.Tryz.func148 (by kernel_rfl) tr_f148 (by kernel_rfl) (by kernel_rfl)
theorem good_f149 : Fg 149 af_f149 := .one Proofs.Tryz.func149 (by kernel_rfl) tr_f149 (by kernel_rfl) (by kernel_rfl)
theorem good_f150 : Fg 150 af_f150 := .one Proofs.Tryz.func150 (by kernel_rfl) tr_f150 (by kernel_rfl) (by kernel_rfl)
theorem good_f151 : Fg 151 af_f151 := .one Proofs.Tryz.func151 (by kernel_rfl) tr_f151 (by kernel_rfl) (by kernel_rfl)
theorem good_f152 : Fg 152 af_f152 := .one Proofs.Tryz.func152 (by kernel_rfl) tr_f152 (by kernel_rfl) (by kernel_rfl)
theorem good_f153 : Fg 153 af_f153 := .one Proofs.Tryz.func153 (by kernel_rfl) tr_f153 (by kernel_rfl) (by kernel_rfl)
theorem good_f154 : Fg 154 af_f154 := .one Proofs.Tryz.func154 (by kernel_rfl) tr_f154 (by kernel_rfl) (by kernel_rfl)
theorem good_f155 : Fg 155 af_f155 := .one Proofs.Tryz.func155 (by kernel_rfl) tr_f155 (by kernel_rfl) (by kernel_rfl)
theorem good_f157 : Fg 157 af_f157 := .one Proofs.Tryz.func157 (by kernel_rfl) tr_f157 (by kernel_rfl) (by kernel_rfl)
theorem good_f158 : Fg 158 af_f158 := .one Proofs.Tryz.func158 (by kernel_rfl) tr_f158 (by kernel_rfl) (by kernel_rfl)
theorem good_f159 : Fg 159 af_f159 := .one Proofs.Tryz.func159 (by kernel_rfl) tr_f159 (by kernel_rfl) (by kernel_rfl)
theorem good_f160 : Fg 160 af_f160 := .one Proofs.Tryz.func160 (by kernel_rfl) tr_f160 (by kernel_rfl) (by kernel_rfl)
theorem good_f161 : Fg 161 af_f161 := .one Proofs.Tryz.func161 (by kernel_rfl) tr_f161 (by kernel_rfl) (by kernel_rfl)
theorem good_f162 : Fg 162 af_f162 := .one Proofs.Tryz.func162 (by kernel_rfl) tr_f162 (by kernel_rfl) (by kernel_rfl)
theorem good_f163 : Fg 163 af_f163 := .one Proofs.Tryz.func163 (by kernel_rfl) tr_f163 (by kernel_rfl) (by kernel_rfl)
theorem good_f164 : Fg 164 af_f164 := .one Proofs.Tryz.func164 (by kernel_rfl) tr_f164 (by kernel_rfl) (by kernel_rfl)
theorem good_f165 : Fg 165 af_f165 := .one Proofs.Tryz.func165 (by kernel_rfl) tr_f165 (by kernel_rfl) (by kernel_rfl)
theorem good_f167 : Fg 167 af_f167 := .one Proofs.Tryz.func167 (by kernel_rfl) tr_f167 (by kernel_rfl) (by kernel_rfl)
theorem good_f168 : Fg 168 af_f168 := .one Proofs.Tryz.func168 (by kernel_rfl) tr_f168 (by kernel_rfl) (by kernel_rfl)
theorem good_f169 : Fg 169 af_f169 := .one Proofs.Tryz.func169 (by kernel_rfl) tr_f169 (by kernel_rfl) (by kernel_rfl)
theorem good_f170 : Fg 170 af_f170 := .one Proofs.Tryz.func170 (by kernel_rfl) tr_f170 (by kernel_rfl) (by kernel_rfl)
theorem good_f171 : Fg 171 af_f171 := .one Proofs.Tryz.func171 (by kernel_rfl) tr_f171 (by kernel_rfl) (by kernel_rfl)
theorem good_f172 : Fg 172 af_f172 := .one Proofs.Tryz.func172 (by kernel_rfl) tr_f172 (by kernel_rfl) (by kernel_rfl)
theorem good_f173 : Fg 173 af_f173 := .one Proofs.Tryz.func173 (by kernel_rfl) tr_f173 (by kernel_rfl) (by kernel_rfl)
theorem good_f174 : Fg 174 af_f174 := .one Proofs.Tryz.func174 (by kernel_rfl) tr_f174 (by kernel_rfl) (by kernel_rfl)
theorem good_f175 : Fg 175 af_f175 := .one Proofs.Tryz.func175 (by kernel_rfl) tr_f175 (by kernel_rfl) (by kernel_rfl)
theorem good_f176 : Fg 176 af_f176 := .one Proofs.Tryz.func176 (by kernel_rfl) tr_f176 (by kernel_rfl) (by kernel_rfl)
theorem good_f177 : Fg 177 af_f177 := .one Proofs.Tryz.func177 (by kernel_rfl) tr_f177 (by kernel_rfl) (by kernel_rfl)
theorem good_f178 : Fg 178 af_f178 := .one Proofs.Tryz.func178 (by kernel_rfl) tr_f178 (by kernel_rfl) (by kernel_rfl)
theorem good_f179 : Fg 179 af_f179 := .one Proofs.Tryz.func179 (by kernel_rfl) tr_f179 (by kernel_rfl) (by kernel_rfl)
theorem good_f181 : Fg 181 af_f181 := .one Proofs.Tryz.func181 (by kernel_rfl) tr_f181 (by kernel_rfl) (by kernel_rfl)
theorem good_f182 : Fg 182 af_f182 := .one Proofs.Tryz.func182 (by kernel_rfl) tr_f182 (by kernel_rfl) (by kernel_rfl)
theorem good_f183 : Fg 183 af_f183 := .one Proofs.Tryz.func183 (by kernel_rfl) tr_f183 (by kernel_rfl) (by kernel_rfl)
theorem good_f184 : Fg 184 af_f184 := .one Proofs.Tryz.func184 (by kernel_rfl) tr_f184 (by kernel_rfl) (by kernel_rfl)
theorem good_f185 : Fg 185 af_f185 := .one Proofs.Tryz.func185 (by kernel_rfl) tr_f185 (by kernel_rfl) (by kernel_rfl)
theorem good_f186 : Fg 186 af_f186 := .one Proofs.Tryz.func186 (by kernel_rfl) tr_f186 (by kernel_rfl) (by kernel_rfl)
theorem good_f187 : Fg 187 af_f187 := .one Proofs.Tryz.func187 (by kernel_rfl) tr_f187 (by kernel_rfl) (by kernel_rfl)
theorem good_f188 : Fg 188 af_f188 := .one Proofs.Tryz.func188 (by kernel_rfl) tr_f188 (by kernel_rfl) (by kernel_rfl)
theorem good_f189 : Fg 189 af_f189 := .one Proofs.Tryz.func189 (by kernel_rfl) tr_f189 (by kernel_rfl) (by kernel_rfl)
theorem good_f190 : Fg 190 af_f190 := .one Proofs.Tryz.func190 (by kernel_rfl) tr_f190 (by kernel_rfl) (by kernel_rfl)
theorem good_f191 : Fg 191 af_f191 := .one Proofs.Tryz.func191 (by kernel_rfl) tr_f191 (by kernel_rfl) (by kernel_rfl)
theorem good_f192 : Fg 192 af_f192 := .one Proofs.Tryz.func192 (by kernel_rfl) tr_f192 (by kernel_rfl) (by kernel_rfl)
theorem good_f193 : Fg 193 af_f193 := .one Proofs.Tryz.func193 (by kernel_rfl) tr_f193 (by kernel_rfl) (by kernel_rfl)
theorem good_f194 : Fg 194 af_f194 := .one Proofs.Tryz.func194 (by kernel_rfl) tr_f194 (by kernel_rfl) (by kernel_rfl)
theorem good_f195 : Fg 195 af_f195 := .one Proofs.Tryz.func195 (by kernel_rfl) tr_f195 (by kernel_rfl) (by kernel_rfl)
theorem good_f196 : Fg 196 af_f196 := .one Proofs.Tryz.func196 (by kernel_rfl) tr_f196 (by kernel_rfl) (by kernel_rfl)
theorem good_f197 : Fg 197 af_f197 := .one Proofs.Tryz.func197 (by kernel_rfl) tr_f197 (by kernel_rfl) (by kernel_rfl)
theorem good_f198 : Fg 198 af_f198 := .one Proofs.Tryz.func198 (by kernel_rfl) tr_f198 (by kernel_rfl) (by kernel_rfl)
theorem good_f199 : Fg 199 af_f199 := .one Proofs.Tryz.func199 (by kernel_rfl) tr_f199 (by kernel_rfl) (by kernel_rfl)
theorem good_f200 : Fg 200 af_f200 := .one Proofs.Tryz.func200 (by kernel_rfl) tr_f200 (by kernel_rfl) (by kernel_rfl)
theorem good_f201 : Fg 201 af_f201 := .one Proofs.Tryz.func201 (by kernel_rfl) tr_f201 (by kernel_rfl) (by kernel_rfl)
theorem good_f202 : Fg 202 af_f202 := .one Proofs.Tryz.func202 (by kernel_rfl) tr_f202 (by kernel_rfl) (by kernel_rfl)
theorem good_f203 : Fg 203 af_f203 := .one Proofs.Tryz.func203 (by kernel_rfl) tr_f203 (by kernel_rfl) (by kernel_rfl)
theorem good_f204 : Fg 204 af_f204 := .one Proofs.Tryz.func204 (by kernel_rfl) tr_f204 (by kernel_rfl) (by kernel_rfl)
theorem good_f210 : Fg 210 af_f210 := .one Proofs.Tryz.func210 (by kernel_rfl) tr_f210 (by kernel_rfl) (by kernel_rfl)
theorem good_f211 : Fg 211 af_f211 := .two Proofs.Tryz.func211 (by kernel_rfl) tr_f211 (by kernel_rfl) at_f210 (by kernel_rfl)
theorem good_f212 : Fg 212 af_f212 := .two Proofs.Tryz.func212 (by kernel_rfl) tr_f212 (by kernel_rfl) at_f210 (by kernel_rfl)
theorem good_f213 : Fg 213 af_f213 := .one Proofs.Tryz.func213 (by kernel_rfl) tr_f213 (by kernel_rfl) (by kernel_rfl)
theorem good_f214 : Fg 214 af_f214 := .one Proofs.Tryz.func214 (by kernel_rfl) tr_f214 (by kernel_rfl) (by kernel_rfl)
theorem good_f215 : Fg 215 af_f215 := .one Proofs.Tryz.func215 (by kernel_rfl) tr_f215 (by kernel_rfl) (by kernel_rfl)
theorem good_f216 : Fg 216 af_f216 := .one Proofs.Tryz.func216 (by kernel_rfl) tr_f216 (by kernel_rfl) (by kernel_rfl)
theorem good_f217 : Fg 217 af_f217 := .one Proofs.Tryz.func217 (by kernel_rfl) tr_f217 (by kernel_rfl) (by kernel_rfl)
theorem good_f218 : Fg 218 af_f218 := .one Proofs.Tryz.func218 (by kernel_rfl) tr_f218 (by kernel_rfl) (by kernel_rfl)
theorem good_f219 : Fg 219 af_f219 := .one Proofs.Tryz.func219 (by kernel_rfl) tr_f219 (by kernel_rfl) (by kernel_rfl)
theorem good_f220 : Fg 220 af_f220 := .one Proofs.Tryz.func220 (by kernel_rfl) tr_f220 (by kernel_rfl) (by kernel_rfl)
theorem good_f221 : Fg 221 af_f221 := .one Proofs.Tryz.func221 (by kernel_rfl) tr_f221 (by kernel_rfl) (by kernel_rfl)
theorem good_f222 : Fg 222 af_f222 := .one Proofs.Tryz.func222 (by kernel_rfl) tr_f222 (by kernel_rfl) (by kernel_rfl)
theorem good_f223 : Fg 223 af_f223 := .one Proofs.Tryz.func223 (by kernel_rfl) tr_f223 (by kernel_rfl) (by kernel_rfl)
theorem good_f224 : Fg 224 af_f224 := .one Proofs.Tryz.func224 (by kernel_rfl) tr_f224 (by kernel_rfl) (by kernel_rfl)
theorem good_f225 : Fg 225 af_f225 := .one Proofs.Tryz.func225 (by kernel_rfl) tr_f225 (by kernel_rfl) (by kernel_rfl)
theorem good_f226 : Fg 226 af_f226 := .one Proofs.Tryz.func226 (by kernel_rfl) tr_f226 (by kernel_rfl) (by kernel_rfl)
theorem good_f227 : Fg 227 af_f227 := .one Proofs.Tryz.func227 (by kernel_rfl) tr_f227 (by kernel_rfl) (by kernel_rfl)
theorem good_f228 : Fg 228 af_f228 := .one Proofs.Tryz.func228 (by kernel_rfl) tr_f228 (by kernel_rfl) (by kernel_rfl)
theorem good_f229 : Fg 229 af_f229 := .one Proofs.Tryz.func229 (by kernel_rfl) tr_f229 (by kernel_rfl) (by kernel_rfl)
theorem good_f230 : Fg 230 af_f230 := .one Proofs.Tryz.func230 (by kernel_rfl) tr_f230 (by kernel_rfl) (by kernel_rfl)
theorem good_f231 : Fg 231 af_f231 := .one Proofs.Tryz.func231 (by kernel_rfl) tr_f231 (by kernel_rfl) (by kernel_rfl)
theorem good_f232 : Fg 232 af_f232 := .one Proofs.Tryz.func232 (by kernel_rfl) tr_f232 (by kernel_rfl) (by kernel_rfl)
theorem good_f233 : Fg 233 af_f233 := .one Proofs.Tryz.func233 (by kernel_rfl) tr_f233 (by kernel_rfl) (by kernel_rfl)
theorem good_f239 : Fg 239 af_f239 := .one Proofs.Tryz.func239 (by kernel_rfl) tr_f239 (by kernel_rfl) (by kernel_rfl)
theorem good_f240 : Fg 240 af_f240 := .one Proofs.Tryz.func240 (by kernel_rfl) tr_f240 (by kernel_rfl) (by kernel_rfl)
theorem good_f241 : Fg 241 af_f241 := .one Proofs.Tryz.func241 (by kernel_rfl) tr_f241 (by kernel_rfl) (by kernel_rfl)
theorem good_f242 : Fg 242 af_f242 := .one Proofs.Tryz.func242 (by kernel_rfl) tr_f242 (by kernel_rfl) (by kernel_rfl)
theorem good_f243 : Fg 243 af_f243 := .one Proofs.Tryz.func243 (by kernel_rfl) tr_f243 (by kernel_rfl) (by kernel_rfl)
theorem good_f244 : Fg 244 af_f244 := .one Proofs.Tryz.func244 (by kernel_rfl) tr_f244 (by kernel_rfl) (by kernel_rfl)
theorem good_f245 : Fg 245 af_f245 := .one Proofs.Tryz.func245 (by kernel_rfl) tr_f245 (by kernel_rfl) (by kernel_rfl)
theorem good_f246 : Fg 246 af_f246 := .one Proofs.Tryz.func246 (by kernel_rfl) tr_f246 (by kernel_rfl) (by kernel_rfl)
theorem good_f247 : Fg 247 af_f247 := .one Proofs.Tryz.func247 (by kernel_rfl) tr_f247 (by kernel_rfl) (by kernel_rfl)
theorem good_f248 : Fg 248 af_f248 := .one Proofs.Tryz.func248 (by kernel_rfl) tr_f248 (by kernel_rfl) (by kernel_rfl)
theorem good_f249 : Fg 249 af_f249 := .one Proofs.Tryz.func249 (by kernel_rfl) tr_f249 (by kernel_rfl) (by kernel_rfl)
theorem good_f250 : Fg 250 af_f250 := .one Proofs.Tryz.func250 (by kernel_rfl) tr_f250 (by kernel_rfl) (by kernel_rfl)
theorem good_f251 : Fg 251 af_f251 := .one Proofs.Tryz.func251 (by kernel_rfl) tr_f251 (by kernel_rfl) (by kernel_rfl)
theorem good_f252 : Fg 252 af_f252 := .one Proofs.Tryz.func252 (by kernel_rfl) tr_f252 (by kernel_rfl) (by kernel_rfl)
theorem good_f253 : Fg 253 af_f253 := .one Proofs.Tryz.func253 (by kernel_rfl) tr_f253 (by kernel_rfl) (by kernel_rfl)
theorem good_f256 : Fg 256 af_f256 := .one Proofs.Tryz.func256 (by kernel_rfl) tr_f256 (by kernel_rfl) (by kernel_rfl)
theorem good_f257 : Fg 257 af_f257 := .one Proofs.Tryz.func257 (by kernel_rfl) tr_f257 (by kernel_rfl) (by kernel_rfl)
theorem good_f258 : Fg 258 af_f258 := .one Proofs.Tryz.func258 (by kernel_rfl) tr_f258 (by kernel_rfl) (by kernel_rfl)
theorem good_f259 : Fg 259 af_f259 := .two Proofs.Tryz.func259 (by kernel_rfl) tr_f259 (by kernel_rfl) at_f210 (by kernel_rfl)
theorem good_f260 : Fg 260 af_f260 := .one Proofs.Tryz.func260 (by kernel_rfl) tr_f260 (by kernel_rfl) (by kernel_rfl)
theorem good_f261 : Fg 261 af_f261 := .one Proofs.Tryz.func261 (by kernel_rfl) tr_f261 (by kernel_rfl) (by kernel_rfl)
theorem good_f262 : Fg 262 af_f262 := .one Proofs.Tryz.func262 (by kernel_rfl) tr_f262 (by kernel_rfl) (by kernel_rfl)
theorem good_f263 : Fg 263 af_f263 := .one Proofs.Tryz.func263 (by kernel_rfl) tr_f263 (by kernel_rfl) (by kernel_rfl)
theorem good_f264 : Fg 264 af_f264 := .one Proofs.Tryz.func264 (by kernel_rfl) tr_f264 (by kernel_rfl) (by kernel_rfl)
theorem good_f265 : Fg 265 af_f265 := .one Proofs.Tryz.func265 (by kernel_rfl) tr_f265 (by kernel_rfl) (by kernel_rfl)
theorem good_f266 : Fg 266 af_f266 := .one Proofs.Tryz.func266 (by kernel_rfl) tr_f266 (by kernel_rfl) (by kernel_rfl)
theorem good_f267 : Fg 267 af_f267 := .one Proofs.Tryz.func267 (by kernel_rfl) tr_f267 (by kernel_rfl) (by kernel_rfl)
theorem good_f268 : Fg 268 af_f268 := .one Proofs.Tryz.func268 (by kernel_rfl) tr_f268 (by kernel_rfl) (by kernel_rfl)
theorem good_f269 : Fg 269 af_f269 := .one Proofs.Tryz.func269 (by kernel_rfl) tr_f269 (by kernel_rfl) (by kernel_rfl)
theorem good_f270 : Fg 270 af_f270 := .one Proofs.Tryz.func270 (by kernel_rfl) tr_f270 (by kernel_rfl) (by kernel_rfl)
theorem good_f271 : Fg 271 af_f271 := .one Proofs.Tryz.func271 (by kernel_rfl) tr_f271 (by kernel_rfl) (by kernel_rfl)
theorem all_good : T.All (fun p af => FnGood Go.Proofs.Tryz.prog F p.key af) F := (.n0 (.n0 (.n0 (.n1 good_f7 (.n1 good_f15 (.n1 good_f31 (.n1 good_f63 (.n1 good_f127 .e .e) (.n1 good_f191 .e .e)) (.n1 good_f95 (.n1 good_f159 .e .e) (.n1 good_f223 .e .e))) (.n1 good_f47 (.n0 (.n1 good_f143 (.n1 good_f271 .e .e) .e) .e) (.n0 (.n1 good_f175 .e .e) (.n1 good_f239 .e .e)))) (.n1 good_f23 (.n1 good_f39 (.n1 good_f71 (.n1 good_f135 (.n1 good_f263 .e .e) .e) (.n1 good_f199 .e .e)) (.n1 good_f103 (.n1 good_f167 .e .e) (.n1 good_f231 .e .e))) (.n0 (.n1 good_f87 (.n1 good_f151 .e .e) (.n1 good_f215 .e .e)) (.n1 good_f119 (.n1 good_f183 .e .e) (.n1 good_f247 .e .e))))) (.n1 good_f11 (.n1 good_f19 (.n1 good_f35 (.n1 good_f67 (.n1 good_f131 (.n1 good_f259 .e .e) .e) (.n1 good_f195 .e .e)) (.n1 good_f99 (.n1 good_f163 .e .e) (.n1 good_f227 .e .e))) (.n1 good_f51 (.n1 good_f83 (.n1 good_f147 .e .e) (.n1 good_f211 .e .e)) (.n0 (.n1 good_f179 .e .e) (.n1 good_f243 .e .e)))) (.n1 good_f27 (.n1 good_f43 (.n1 good_f75 (.n1 good_f139 (.n1 good_f267 .e .e) .e) (.n1 good_f203 .e .e)) (.n1 good_f107 (.n1 good_f171 .e .e) .e)) (.n0 (.n1 good_f91 (.n1 good_f155 .e .e) (.n1 good_f219 .e .e)) (.n1 good_f123 (.n1 good_f187 .e .e) (.n1 good_f251 .e .e)))))) (.n1 good_f5 (.n0 (.n1 good_f17 (.n1 good_f33 (.n1 good_f65 (.n0 (.n1 good_f257 .e .e) .e) (.n1 good_f193 .e .e)) (.n1 good_f97 (.n1 good_f161 .e .e) (.n1 good_f225 .e .e))) (.n1 good_f49 (.n1 good_f81 (.n1 good_f145 .e .e) .e) (.n1 good_f113 (.n1 good_f177 .e .e) (.n1 good_f241 .e .e)))) (.n0 (.n1 good_f41 (.n1 good_f73 (.n1 good_f137 (.n1 good_f265 .e .e) .e) (.n1 good_f201 .e .e)) (.n1 good_f105 (.n1 good_f169 .e .e) (.n1 good_f233 .e .e))) (.n0 (.n1 good_f89 (.n1 good_f153 .e .e) (.n1 good_f217 .e .e)) (.n1 good_f121 (.n1 good_f185 .e .e) (.n1 good_f249 .e .e))))) (.n1 good_f13 (.n1 good_f21 (.n0 (.n1 good_f69 (.n1 good_f133 (.n1 good_f261 .e .e) .e) (.n1 good_f197 .e .e)) (.n1 good_f101 (.n1 good_f165 .e .e) (.n1 good_f229 .e .e))) (.n1 good_f53 (.n1 good_f85 (.n1 good_f149 .e .e) (.n1 good_f213 .e .e)) (.n1 good_f117 (.n1 good_f181 .e .e) (.n1 good_f245 .e .e)))) (.n1 good_f29 (.n1 good_f45 (.n1 good_f77 (.n1 good_f141 (.n1 good_f269 .e .e) .e) .e) (.n1 good_f109 (.n1 good_f173 .e .e) .e)) (.n0 (.n1 good_f93 (.n1 good_f157 .e .e) (.n1 good_f221 .e .e)) (.n1 good_f125 (.n1 good_f189 .e .e) (.n1 good_f253 .e .e))))))) (.n0 (.n0 (.n1 good_f8 (.n1 good_f16 (.n1 good_f32 (.n1 good_f64 (.n1 good_f128 (.n1 good_f256 .e .e) .e) (.n1 good_f192 .e .e)) (.n1 good_f96 (.n1 good_f160 .e .e) (.n1 good_f224 .e .e))) (.n1 good_f48 (.n1 good_f80 (.n1 good_f144 .e .e) .e) (.n0 (.n1 good_f176 .e .e) (.n1 good_f240 .e .e)))) (.n0 (.n1 good_f40 (.n1 good_f72 (.n1 good_f136 (.n1 good_f264 .e .e) .e) (.n1 good_f200 .e .e)) (.n1 good_f104 (.n1 good_f168 .e .e) (.n1 good_f232 .e .e))) (.n1 good_f56 (.n1 good_f88 (.n1 good_f152 .e .e) (.n1 good_f216 .e .e)) (.n1 good_f120 (.n1 good_f184 .e .e) (.n1 good_f248 .e .e))))) (.n0 (.n1 good_f20 (.n1 good_f36 (.n1 good_f68 (.n1 good_f132 (.n1 good_f260 .e .e) .e) (.n1 good_f196 .e .e)) (.n1 good_f100 (.n1 good_f164 .e .e) (.n1 good_f228 .e .e))) (.n1 good_f52 (.n1 good_f84 (.n1 good_f148 .e .e) (.n1 good_f212 .e .e)) (.n1 good_f116 .e (.n1 good_f244 .e .e)))) (.n1 good_f28 (.n1 good_f44 (.n1 good_f76 (.n1 good_f140 (.n1 good_f268 .e .e) .e) (.n1 good_f204 .e .e)) (.n1 good_f108 (.n1 good_f172 .e .e) .e)) (.n0 (.n1 good_f92 .e (.n1 good_f220 .e .e)) (.n1 good_f124 (.n1 good_f188 .e .e) (.n1 good_f252 .e .e)))))) (.n1 good_f6 (.n1 good_f10 (.n0 (.n1 good_f34 (.n1 good_f66 (.n1 good_f130 (.n1 good_f258 .e .e) .e) (.n1 good_f194 .e .e)) (.n1 good_f98 (.n1 good_f162 .e .e) (.n1 good_f226 .e .e))) (.n1 good_f50 (.n1 good_f82 (.n1 good_f146 .e .e) (.n1 good_f210 .e .e)) (.n0 (.n1 good_f178 .e .e) (.n1 good_f242 .e .e)))) (.n1 good_f26 (.n1 good_f42 (.n1 good_f74 (.n1 good_f138 (.n1 good_f266 .e .e) .e) (.n1 good_f202 .e .e)) (.n1 good_f106 (.n1 good_f170 .e .e) .e)) (.n0 (.n1 good_f90 (.n1 good_f154 .e .e) (.n1 good_f218 .e .e)) (.n1 good_f122 (.n1 good_f186 .e .e) (.n1 good_f250 .e .e))))) (.n1 good_f14 (.n1 good_f22 (.n1 good_f38 (.n1 good_f70 (.n1 good_f134 (.n1 good_f262 .e .e) .e) (.n1 good_f198 .e .e)) (.n1 good_f102 .e (.n1 good_f230 .e .e))) (.n1 good_f54 (.n1 good_f86 (.n1 good_f150 .e .e) (.n1 good_f214 .e .e)) (.n1 good_f118 (.n1 good_f182 .e .e) (.n1 good_f246 .e .e)))) (.n1 good_f30 (.n1 good_f46 (.n0 (.n1 good_f142 (.n1 good_f270 .e .e) .e) .e) (.n1 good_f110 (.n1 good_f174 .e .e) .e)) (.n1 good_f62 (.n1 good_f94 (.n1 good_f158 .e .e) (.n1 good_f222 .e .e)) (.n1 good_f126 (.n1 good_f190 .e .e) .e)))))))
theorem fns_ok : FnsOk Go.Proofs.Tryz.prog F := .of_all (by kernel_rfl) all_good
end Go.R5

namespace Go.R5
open Go.Eng
def tabS : LV := [.str 0 0, .int .i32 (.ofNat 0) 0, .str 3 7630441, .int .i32 (.ofNat 110) 0, .str 4 1819047278, .int .i32 (.ofNat 0) 0, .str 5 465490374508, .int .i32 (.ofNat 108) 0, .str 5 435711603827, .int .i32 (.ofNat 108) 0, .str 3 6579297, .int .i32 (.ofNat 0) 0, .str 3 6452595, .int .i32 (.ofNat 0) 0, .str 3 7107949, .int .i32 (.ofNat 0) 0, .str 3 7760228, .int .i32 (.ofNat 0) 0, .str 3 6582125, .int .i32 (.ofNat 0) 0, .str 4 1936942444, .int .i32 (.ofNat 0) 0, .str 4 1953722221, .int .i32 (.ofNat 0) 0, .str 4 1701667187, .int .i32 (.ofNat 0) 0, .str 5 491327616111, .int .i32 (.ofNat 0) 0, .str 3 6776174, .int .i32 (.ofNat 0) 0, .str 3 7630702, .int .i32 (.ofNat 0) 0, .str 3 7628135, .int .i32 (.ofNat 102) 0, .str 3 7632240, .int .i32 (.ofNat 102) 0, .str 3 7824750, .int .i32 (.ofNat 99) 0, .str 5 521325933153, .int .i32 (.ofNat 116) 0, .str 4 1684107116, .int .i32 (.ofNat 116) 0, .str 4 1702257011, .int .i32 (.ofNat 116) 0, .str 6 114849160783212, .int .i32 (.ofNat 0) 0, .str 4 1953718627, .int .i32 (.ofNat 99) 0, .str 2 29545, .int .i32 (.ofNat 99) 0, .str 4 1819042147, .int .i32 (.ofNat 109) 0, .str 6 109304575259763, .int .i32 (.ofNat 109) 0, .str 4 1886221674, .int .i32 (.ofNat 106) 0, .str 6 126939460038261, .int .i32 (.ofNat 106) 0, .str 6 121437875889522, .int .i32 (.ofNat 0) 0, .str 5 500068610672, .int .i32 (.ofNat 0) 0, .str 3 7368560, .int .i32 (.ofNat 0) 0, .str 4 1819242338, .int .i32 (.ofNat 98) 0]
def tabM : LV := [.str 2 15677, .str 2 15649, .str 2 15676, .str 2 9766, .str 2 31868, .str 1 43, .str 1 45, .str 1 42, .str 1 47, .str 1 37, .str 1 60, .str 1 61, .str 1 33, .str 1 40, .str 1 41, .str 1 91, .str 1 93, .str 1 123, .str 1 125, .str 1 59, .str 1 44, .str 1 46]
noncomputable def romOr (A B : Roms) : Roms := fun b o n => Option.rec (motive := fun _ => Option LV) (B b o n) (fun l => some l) (A b o n)
theorem romOr_rel {W : World} {A B : Roms} (hA : GRel W A) (hB : GRel W B) : GRel W (romOr A B) := fun b o n L h => by
  unfold romOr at h
  cases ha : A b o n with
  | none => rw [ha] at h; exact hB b o n L h
  | some l => rw [ha] at h; cases h; exact hA b o n _ ha
noncomputable def G0 : Roms := romOr (tabK 1 22 tabM) (tabK 0 66 tabS)
end Go.R5

