/- Part of a proof: texts LQNm LQTr LQOk of the engine and what is proved with it; nothing is assumed. -/
import Derived.Test.YtibbhhkcjjeclaaDoorEngA
import Derived.Test.YtibbhhkcjjeclaaDoorEngF
import Derived.Test.YtibbhhkcjjeclaaDoorProg
set_option linter.unusedVariables false
set_option linter.unusedSimpArgs false
/- Registers. -/
namespace Go.RL
open Go.Eng
def q0 : P2 := .h
def q1 : P2 := .z q0
def q2 : P2 := .o q0
def q3 : P2 := .z q1
def q4 : P2 := .o q1
def q5 : P2 := .z q2
def q6 : P2 := .o q2
def q7 : P2 := .z q3
def q8 : P2 := .o q3
def q9 : P2 := .z q4
def q10 : P2 := .o q4
def q11 : P2 := .z q5
def q12 : P2 := .o q5
def q13 : P2 := .z q6
def q14 : P2 := .o q6
def q15 : P2 := .z q7
def q16 : P2 := .o q7
def q17 : P2 := .z q8
def q18 : P2 := .o q8
def q19 : P2 := .z q9
def q20 : P2 := .o q9
def q21 : P2 := .z q10
def q22 : P2 := .o q10
def q23 : P2 := .z q11
def q24 : P2 := .o q11
def q25 : P2 := .z q12
def q26 : P2 := .o q12
def q27 : P2 := .z q13
def q28 : P2 := .o q13
def q29 : P2 := .z q14
def q30 : P2 := .o q14
def q31 : P2 := .z q15
def q32 : P2 := .o q15
def q33 : P2 := .z q16
def q34 : P2 := .o q16
def q35 : P2 := .z q17
def q36 : P2 := .o q17
def q37 : P2 := .z q18
def q38 : P2 := .o q18
def q39 : P2 := .z q19
def q40 : P2 := .o q19
def q41 : P2 := .z q20
def q42 : P2 := .o q20
def q43 : P2 := .z q21
def q44 : P2 := .o q21
def q45 : P2 := .z q22
def q46 : P2 := .o q22
def q47 : P2 := .z q23
def q48 : P2 := .o q23
def q49 : P2 := .z q24
def q50 : P2 := .o q24
def q51 : P2 := .z q25
def q52 : P2 := .o q25
def q53 : P2 := .z q26
def q54 : P2 := .o q26
def q55 : P2 := .z q27
def q56 : P2 := .o q27
def q57 : P2 := .z q28
def q58 : P2 := .o q28
def q59 : P2 := .z q29
def q60 : P2 := .o q29
def q61 : P2 := .z q30
def q62 : P2 := .o q30
def q63 : P2 := .z q31
def q64 : P2 := .o q31
def q65 : P2 := .z q32
def q66 : P2 := .o q32
def q67 : P2 := .z q33
def q68 : P2 := .o q33
def q69 : P2 := .z q34
def q70 : P2 := .o q34
def q71 : P2 := .z q35
def q72 : P2 := .o q35
def q73 : P2 := .z q36
def q74 : P2 := .o q36
def q75 : P2 := .z q37
def q76 : P2 := .o q37
def q77 : P2 := .z q38
def q78 : P2 := .o q38
def q79 : P2 := .z q39
def q80 : P2 := .o q39
def q81 : P2 := .z q40
def q82 : P2 := .o q40
def q83 : P2 := .z q41
def q84 : P2 := .o q41
def q85 : P2 := .z q42
def q86 : P2 := .o q42
def q87 : P2 := .z q43
def q88 : P2 := .o q43
def q89 : P2 := .z q44
def q90 : P2 := .o q44
def q91 : P2 := .z q45
def q92 : P2 := .o q45
def q93 : P2 := .z q46
def q94 : P2 := .o q46
def q95 : P2 := .z q47
def q96 : P2 := .o q47
def q97 : P2 := .z q48
def q98 : P2 := .o q48
def q99 : P2 := .z q49
def q100 : P2 := .o q49
def q101 : P2 := .z q50
def q102 : P2 := .o q50
def q103 : P2 := .z q51
def q104 : P2 := .o q51
def q105 : P2 := .z q52
def q106 : P2 := .o q52
def q107 : P2 := .z q53
def q108 : P2 := .o q53
def q109 : P2 := .z q54
def q110 : P2 := .o q54
def q111 : P2 := .z q55
def q112 : P2 := .o q55
def q113 : P2 := .z q56
def q114 : P2 := .o q56
def q115 : P2 := .z q57
def q116 : P2 := .o q57
def q117 : P2 := .z q58
def q118 : P2 := .o q58
def q119 : P2 := .z q59
def q120 : P2 := .o q59
def q121 : P2 := .z q60
def q122 : P2 := .o q60
def q123 : P2 := .z q61
def q124 : P2 := .o q61
def q125 : P2 := .z q62
def q126 : P2 := .o q62
def q127 : P2 := .z q63
def q128 : P2 := .o q63
def q129 : P2 := .z q64
def q130 : P2 := .o q64
def q131 : P2 := .z q65
def q132 : P2 := .o q65
def q133 : P2 := .z q66
def q134 : P2 := .o q66
def q135 : P2 := .z q67
def q136 : P2 := .o q67
def q137 : P2 := .z q68
def q138 : P2 := .o q68
def q139 : P2 := .z q69
def q140 : P2 := .o q69
def q141 : P2 := .z q70
def q142 : P2 := .o q70
def q143 : P2 := .z q71
def q144 : P2 := .o q71
def q145 : P2 := .z q72
def q146 : P2 := .o q72
def q147 : P2 := .z q73
def q148 : P2 := .o q73
def q149 : P2 := .z q74
def q150 : P2 := .o q74
def q151 : P2 := .z q75
def q152 : P2 := .o q75
def q153 : P2 := .z q76
def q154 : P2 := .o q76
def q155 : P2 := .z q77
def q156 : P2 := .o q77
def q157 : P2 := .z q78
def q158 : P2 := .o q78
def q159 : P2 := .z q79
def q160 : P2 := .o q79
def q161 : P2 := .z q80
def q162 : P2 := .o q80
def q163 : P2 := .z q81
def q164 : P2 := .o q81
def q165 : P2 := .z q82
def q166 : P2 := .o q82
def q167 : P2 := .z q83
def q168 : P2 := .o q83
def q169 : P2 := .z q84
def q170 : P2 := .o q84
def q171 : P2 := .z q85
def q172 : P2 := .o q85
def q173 : P2 := .z q86
def q174 : P2 := .o q86
def q175 : P2 := .z q87
def q176 : P2 := .o q87
def q177 : P2 := .z q88
def q178 : P2 := .o q88
def q179 : P2 := .z q89
def q180 : P2 := .o q89
def q181 : P2 := .z q90
def q182 : P2 := .o q90
def q183 : P2 := .z q91
def q184 : P2 := .o q91
def q185 : P2 := .z q92
def q186 : P2 := .o q92
def q187 : P2 := .z q93
def q188 : P2 := .o q93
def q189 : P2 := .z q94
def q190 : P2 := .o q94
def q191 : P2 := .z q95
def q192 : P2 := .o q95
def q193 : P2 := .z q96
def q194 : P2 := .o q96
def q195 : P2 := .z q97
def q196 : P2 := .o q97
def q197 : P2 := .z q98
def q198 : P2 := .o q98
def q199 : P2 := .z q99
def q200 : P2 := .o q99
def q201 : P2 := .z q100
def q202 : P2 := .o q100
def q203 : P2 := .z q101
def q204 : P2 := .o q101
def q205 : P2 := .z q102
def q206 : P2 := .o q102
def q207 : P2 := .z q103
def q208 : P2 := .o q103
def q209 : P2 := .z q104
def q210 : P2 := .o q104
def q211 : P2 := .z q105
def q212 : P2 := .o q105
def q213 : P2 := .z q106
def q214 : P2 := .o q106
def q215 : P2 := .z q107
def q216 : P2 := .o q107
def q217 : P2 := .z q108
def q218 : P2 := .o q108
def q219 : P2 := .z q109
def q220 : P2 := .o q109
def q221 : P2 := .z q110
def q222 : P2 := .o q110
def q223 : P2 := .z q111
def q224 : P2 := .o q111
def q225 : P2 := .z q112
def q226 : P2 := .o q112
def q227 : P2 := .z q113
def q228 : P2 := .o q113
def q229 : P2 := .z q114
def q230 : P2 := .o q114
def q231 : P2 := .z q115
def q232 : P2 := .o q115
def q233 : P2 := .z q116
def q234 : P2 := .o q116
def q235 : P2 := .z q117
def q236 : P2 := .o q117
def q237 : P2 := .z q118
def q238 : P2 := .o q118
def q239 : P2 := .z q119
def q240 : P2 := .o q119
def q241 : P2 := .z q120
def q242 : P2 := .o q120
def q243 : P2 := .z q121
def q244 : P2 := .o q121
def q245 : P2 := .z q122
def q246 : P2 := .o q122
def q247 : P2 := .z q123
def q248 : P2 := .o q123
def q249 : P2 := .z q124
def q250 : P2 := .o q124
def q251 : P2 := .z q125
def q252 : P2 := .o q125
def q253 : P2 := .z q126
def q254 : P2 := .o q126
def q255 : P2 := .z q127
def q256 : P2 := .o q127
def q257 : P2 := .z q128
def q258 : P2 := .o q128
def q259 : P2 := .z q129
def q260 : P2 := .o q129
def q261 : P2 := .z q130
def q262 : P2 := .o q130
abbrev n_kilnlaw14_LinkTurns : Nat := 3
abbrev n_kilnlaw14_LinkMany : Nat := 4
abbrev n_kilnlaw14_LinkErrors : Nat := 5
abbrev n_kilnlaw14_head : Nat := 12
abbrev n_kilnlaw14_Few : Nat := 13
abbrev n_link_Link : Nat := 14
abbrev n_link_Image_Size : Nat := 15
abbrev n_link_Image_Slot : Nat := 16
abbrev n_link_Image_Find : Nat := 17
abbrev n_link_Image_Names : Nat := 18
abbrev n_hier_Table_Above : Nat := 19
abbrev n_kilnlaw14_check : Nat := 20
abbrev n_link_Image_File : Nat := 21
abbrev n_kilnlaw12_Same : Nat := 22
abbrev n_link_Image_Body : Nat := 23
abbrev n_kilnlaw14_find : Nat := 24
abbrev n_ast_Int : Nat := 29
abbrev n_op_Code_Pool : Nat := 34
abbrev n_kilnlaw14_head_1 : Nat := 36
abbrev n_kilnlaw12_Few : Nat := 37
abbrev n_class_File_Right : Nat := 38
abbrev n_hier_New : Nat := 39
abbrev n_hier_Table_Check : Nat := 40
abbrev n_link_Image_pool : Nat := 41
abbrev n_hier_Table_Face : Nat := 42
abbrev n_hier_Table_Field : Nat := 43
abbrev n_face_Face_Method : Nat := 44
abbrev n_face_Sig_Same : Nat := 45
abbrev n_slices_Contains_string_string : Nat := 46
abbrev n_hier_Table_Known : Nat := 47
abbrev n_face_Face_Same : Nat := 48
abbrev n_ast_Of : Nat := 50
abbrev n_hier_Table_Method : Nat := 53
abbrev n_op_Code_Known : Nat := 56
abbrev n_kilnlaw07_Few : Nat := 57
abbrev n_face_Face_Right : Nat := 58
abbrev n_class_Pool_right : Nat := 59
abbrev n_op_Instr_Right : Nat := 60
abbrev n_class_File_many : Nat := 61
abbrev n_hier_twice : Nat := 62
abbrev n_face_Face_Field : Nat := 63
abbrev n_slices_Equal_ast_Type_ast_Type : Nat := 64
abbrev n_slices_Index_string_string : Nat := 65
abbrev n_face_Good : Nat := 66
abbrev n_ast_Type_Class : Nat := 67
abbrev n_slices_Equal_ast_Var_ast_Var : Nat := 68
abbrev n_slices_EqualFunc_face_Sig_face_Sig_face_Sig_face_Sig : Nat := 69
abbrev n_slices_ContainsFunc_ast_Type_ast_Type : Nat := 90
abbrev n_face_Face_Right_1 : Nat := 91
abbrev n_class_class : Nat := 92
abbrev n_class_sig : Nat := 93
abbrev n_class_File_many_1 : Nat := 94
abbrev n_slices_IndexFunc_ast_Type_ast_Type : Nat := 108
end Go.RL

/- The abstract code is what the program has: the translation, run by the kernel. -/
namespace Go.RL
open Go.Eng
set_option maxRecDepth 100000
noncomputable abbrev tr (l : List (Nat × Nat)) (d : Bool) (o : Ords) (g : Nat) (f : Func) : Option AF := trF Go.Proofs.Tryd.prog (inR l) d o g f
noncomputable abbrev o_kilnlaw14_LinkTurns := tr [(21,21),(23,29),(31,35),(45,58),(60,60),(66,67),(79,80),(85,86),(102,104),(109,144),(146,147)] false [(6,opp [0,1,2,3,5,6,7,4,8,9]),(16,opp [0,1,2,3,5,6,7,8,4,9,10]),(21,opp [0,1,2,3,4,5,7,8,9,10,11,12,6,13,14])] 0 Proofs.Tryd.f3
noncomputable def af_kilnlaw14_LinkTurns := theAF o_kilnlaw14_LinkTurns
theorem tr_kilnlaw14_LinkTurns : o_kilnlaw14_LinkTurns = some af_kilnlaw14_LinkTurns := theAF_ok (by kernel_rfl)
noncomputable abbrev o_kilnlaw14_LinkMany := tr [(10,10),(12,16),(18,33),(35,53),(55,68),(70,70),(87,93)] false [(18,opl 17)] 0 Proofs.Tryd.f4
noncomputable def af_kilnlaw14_LinkMany := theAF o_kilnlaw14_LinkMany
theorem tr_kilnlaw14_LinkMany : o_kilnlaw14_LinkMany = some af_kilnlaw14_LinkMany := theAF_ok (by kernel_rfl)
noncomputable abbrev o_kilnlaw14_LinkErrors := tr [(20,20),(22,22),(24,24),(26,27),(29,43),(45,45),(47,52),(58,68),(87,88),(93,105),(132,134),(139,146),(156,165),(167,184)] false [(17,opl 18),(23,opl 26),(30,opl 11)] 0 Proofs.Tryd.f5
noncomputable def af_kilnlaw14_LinkErrors := theAF o_kilnlaw14_LinkErrors
theorem tr_kilnlaw14_LinkErrors : o_kilnlaw14_LinkErrors = some af_kilnlaw14_LinkErrors := theAF_ok (by kernel_rfl)
noncomputable abbrev o_kilnlaw14_head := tr [(4,37)] false [] 0 Proofs.Tryd.f12
noncomputable def af_kilnlaw14_head := theAF o_kilnlaw14_head
theorem tr_kilnlaw14_head : o_kilnlaw14_head = some af_kilnlaw14_head := theAF_ok (by kernel_rfl)
noncomputable abbrev o_kilnlaw14_Few := tr [(9,12),(14,17)] false [] 0 Proofs.Tryd.f13
noncomputable def af_kilnlaw14_Few := theAF o_kilnlaw14_Few
theorem tr_kilnlaw14_Few : o_kilnlaw14_Few = some af_kilnlaw14_Few := theAF_ok (by kernel_rfl)
noncomputable abbrev o_link_Link := tr [(13,14),(16,18),(23,24),(37,39),(41,41),(62,72),(77,78),(87,87),(89,93),(95,96)] false [(8,opl 14),(13,opl 9),(14,opl 13),(21,opl 9)] 0 Proofs.Tryd.f14
noncomputable def af_link_Link := theAF o_link_Link
theorem tr_link_Link : o_link_Link = some af_link_Link := theAF_ok (by kernel_rfl)
noncomputable abbrev o_link_Image_Size := tr [(7,7),(11,20),(25,42)] false [] 0 Proofs.Tryd.f15
noncomputable def af_link_Image_Size := theAF o_link_Image_Size
theorem tr_link_Image_Size : o_link_Image_Size = some af_link_Image_Size := theAF_ok (by kernel_rfl)
noncomputable abbrev o_link_Image_Slot := tr [(8,9),(11,11),(15,39),(44,49),(51,54)] false [] 0 Proofs.Tryd.f16
noncomputable def af_link_Image_Slot := theAF o_link_Image_Slot
theorem tr_link_Image_Slot : o_link_Image_Slot = some af_link_Image_Slot := theAF_ok (by kernel_rfl)
noncomputable abbrev o_link_Image_Find := tr [(11,11),(28,52),(54,55)] false [(1,opl 12)] 0 Proofs.Tryd.f17
noncomputable def af_link_Image_Find := theAF o_link_Image_Find
theorem tr_link_Image_Find : o_link_Image_Find = some af_link_Image_Find := theAF_ok (by kernel_rfl)
noncomputable abbrev o_link_Image_Names := tr [(3,3),(5,9)] false [] 0 Proofs.Tryd.f18
noncomputable def af_link_Image_Names := theAF o_link_Image_Names
theorem tr_link_Image_Names : o_link_Image_Names = some af_link_Image_Names := theAF_ok (by kernel_rfl)
noncomputable abbrev o_hier_Table_Above := tr [(9,9),(11,22),(24,24),(31,31)] false [(6,[(0,.plain),(1,.plain),(2,.plain),(4,.plain),(5,.plain),(3,.plain),(6,.wr),(7,.wr)])] 0 Proofs.Tryd.f19
noncomputable def af_hier_Table_Above := theAF o_hier_Table_Above
theorem tr_hier_Table_Above : o_hier_Table_Above = some af_hier_Table_Above := theAF_ok (by kernel_rfl)
noncomputable abbrev o_kilnlaw14_check := tr [(15,15),(19,19),(24,24),(26,26),(31,35),(37,38),(43,50),(52,60),(65,72),(74,81),(86,100),(105,131),(136,149),(151,151)] false [] 0 Proofs.Tryd.f20
noncomputable def af_kilnlaw14_check := theAF o_kilnlaw14_check
theorem tr_kilnlaw14_check : o_kilnlaw14_check = some af_kilnlaw14_check := theAF_ok (by kernel_rfl)
noncomputable abbrev o_link_Image_File := tr [(8,8),(10,21)] false [] 0 Proofs.Tryd.f21
noncomputable def af_link_Image_File := theAF o_link_Image_File
theorem tr_link_Image_File : o_link_Image_File = some af_link_Image_File := theAF_ok (by kernel_rfl)
noncomputable abbrev o_kilnlaw12_Same := tr [(14,82),(84,86),(90,90),(104,107),(111,111),(125,128),(132,132),(146,149),(153,153),(167,170),(174,174),(208,209),(214,241),(243,244),(248,248),(260,261)] false [(6,opl 13),(12,opl 13),(18,opl 13),(24,opl 13),(30,opl 33),(42,opl 11)] 0 Proofs.Tryd.f22
noncomputable def af_kilnlaw12_Same := theAF o_kilnlaw12_Same
theorem tr_kilnlaw12_Same : o_kilnlaw12_Same = some af_kilnlaw12_Same := theAF_ok (by kernel_rfl)
noncomputable abbrev o_link_Image_Body := tr [(9,9),(12,19),(24,29),(31,37)] false [] 0 Proofs.Tryd.f23
noncomputable def af_link_Image_Body := theAF o_link_Image_Body
theorem tr_link_Image_Body : o_link_Image_Body = some af_link_Image_Body := theAF_ok (by kernel_rfl)
noncomputable abbrev o_kilnlaw14_find := tr [(7,7),(11,11),(14,20),(25,33),(38,44),(46,48),(50,52)] false [] 0 Proofs.Tryd.f24
noncomputable def af_kilnlaw14_find := theAF o_kilnlaw14_find
theorem tr_kilnlaw14_find : o_kilnlaw14_find = some af_kilnlaw14_find := theAF_ok (by kernel_rfl)
noncomputable abbrev o_ast_Int := tr [(1,1)] false [] 0 Proofs.Tryd.f29
noncomputable def af_ast_Int := theAF o_ast_Int
theorem tr_ast_Int : o_ast_Int = some af_ast_Int := theAF_ok (by kernel_rfl)
noncomputable abbrev o_op_Code_Pool := tr [(3,4),(6,9)] false [] 0 Proofs.Tryd.f34
noncomputable def af_op_Code_Pool := theAF o_op_Code_Pool
theorem tr_op_Code_Pool : o_op_Code_Pool = some af_op_Code_Pool := theAF_ok (by kernel_rfl)
noncomputable abbrev o_kilnlaw14_head_1 := tr [(3,5)] false [] 0 Proofs.Tryd.f36
noncomputable def af_kilnlaw14_head_1 := theAF o_kilnlaw14_head_1
theorem tr_kilnlaw14_head_1 : o_kilnlaw14_head_1 = some af_kilnlaw14_head_1 := theAF_ok (by kernel_rfl)
noncomputable abbrev o_kilnlaw12_Few := tr [(13,56),(58,59),(64,67),(69,71),(76,80),(82,84),(89,104),(106,108),(113,125),(127,128),(133,137),(139,139)] false [] 0 Proofs.Tryd.f37
noncomputable def af_kilnlaw12_Few := theAF o_kilnlaw12_Few
theorem tr_kilnlaw12_Few : o_kilnlaw12_Few = some af_kilnlaw12_Few := theAF_ok (by kernel_rfl)
noncomputable abbrev o_class_File_Right := tr [(9,27),(29,29),(34,47),(49,80),(82,82),(87,88),(95,96)] false [(15,opl 6)] 0 Proofs.Tryd.f38
noncomputable def af_class_File_Right := theAF o_class_File_Right
theorem tr_class_File_Right : o_class_File_Right = some af_class_File_Right := theAF_ok (by kernel_rfl)
noncomputable abbrev o_hier_New := tr [(6,9),(14,15),(23,24)] false [(5,opl 8)] 0 Proofs.Tryd.f39
noncomputable def af_hier_New := theAF o_hier_New
theorem tr_hier_New : o_hier_New = some af_hier_New := theAF_ok (by kernel_rfl)
noncomputable abbrev o_hier_Table_Check := tr [(10,10),(13,14),(18,18),(21,31),(33,49),(51,59),(61,62),(64,66),(71,77),(79,88),(90,91),(96,105),(107,127),(129,129)] false [] 0 Proofs.Tryd.f40
noncomputable def af_hier_Table_Check := theAF o_hier_Table_Check
theorem tr_hier_Table_Check : o_hier_Table_Check = some af_hier_Table_Check := theAF_ok (by kernel_rfl)
noncomputable abbrev o_link_Image_pool := tr [(14,14),(16,16),(21,22),(32,32),(41,41),(46,47),(62,69),(71,72),(77,85),(87,87)] false [(4,opl 9),(7,opl 8),(12,opp [0,1,2,3,4,5,6,7,8,14,9,10,11,12,13,15,16,17])] 0 Proofs.Tryd.f41
noncomputable def af_link_Image_pool := theAF o_link_Image_pool
theorem tr_link_Image_pool : o_link_Image_pool = some af_link_Image_pool := theAF_ok (by kernel_rfl)
noncomputable abbrev o_hier_Table_Face := tr [(8,8),(10,26)] false [] 0 Proofs.Tryd.f42
noncomputable def af_hier_Table_Face := theAF o_hier_Table_Face
theorem tr_hier_Table_Face : o_hier_Table_Face = some af_hier_Table_Face := theAF_ok (by kernel_rfl)
noncomputable abbrev o_hier_Table_Field := tr [(10,10),(14,14),(17,22),(27,40),(44,45)] false [(8,opl 5)] 0 Proofs.Tryd.f43
noncomputable def af_hier_Table_Field := theAF o_hier_Table_Field
theorem tr_hier_Table_Field : o_hier_Table_Field = some af_hier_Table_Field := theAF_ok (by kernel_rfl)
noncomputable abbrev o_face_Face_Method := tr [(8,8),(13,17),(19,21)] false [] 0 Proofs.Tryd.f44
noncomputable def af_face_Face_Method := theAF o_face_Face_Method
theorem tr_face_Face_Method : o_face_Face_Method = some af_face_Face_Method := theAF_ok (by kernel_rfl)
noncomputable abbrev o_face_Sig_Same := tr [(5,30)] false [] 0 Proofs.Tryd.f45
noncomputable def af_face_Sig_Same := theAF o_face_Sig_Same
theorem tr_face_Sig_Same : o_face_Sig_Same = some af_face_Sig_Same := theAF_ok (by kernel_rfl)
noncomputable abbrev o_slices_Contains_string_string := tr [(5,8)] false [] 0 Proofs.Tryd.f46
noncomputable def af_slices_Contains_string_string := theAF o_slices_Contains_string_string
theorem tr_slices_Contains_string_string : o_slices_Contains_string_string = some af_slices_Contains_string_string := theAF_ok (by kernel_rfl)
noncomputable abbrev o_hier_Table_Known := tr [(7,7),(13,16),(18,20),(22,29),(31,31)] false [] 0 Proofs.Tryd.f47
noncomputable def af_hier_Table_Known := theAF o_hier_Table_Known
theorem tr_hier_Table_Known : o_hier_Table_Known = some af_hier_Table_Known := theAF_ok (by kernel_rfl)
noncomputable abbrev o_face_Face_Same := tr [(5,30)] false [] 0 Proofs.Tryd.f48
noncomputable def af_face_Face_Same := theAF o_face_Face_Same
theorem tr_face_Face_Same : o_face_Face_Same = some af_face_Face_Same := theAF_ok (by kernel_rfl)
noncomputable abbrev o_ast_Of := tr [(3,4)] false [] 0 Proofs.Tryd.f50
noncomputable def af_ast_Of := theAF o_ast_Of
theorem tr_ast_Of : o_ast_Of = some af_ast_Of := theAF_ok (by kernel_rfl)
noncomputable abbrev o_hier_Table_Method := tr [(12,12),(16,16),(19,24),(29,48),(52,53)] false [(8,opl 5)] 0 Proofs.Tryd.f53
noncomputable def af_hier_Table_Method := theAF o_hier_Table_Method
theorem tr_hier_Table_Method : o_hier_Table_Method = some af_hier_Table_Method := theAF_ok (by kernel_rfl)
noncomputable abbrev o_op_Code_Known := tr [(3,8)] false [] 0 Proofs.Tryd.f56
noncomputable def af_op_Code_Known := theAF o_op_Code_Known
theorem tr_op_Code_Known : o_op_Code_Known = some af_op_Code_Known := theAF_ok (by kernel_rfl)
noncomputable abbrev o_kilnlaw07_Few := tr [(9,29),(31,31),(36,47),(49,50),(55,72),(74,74),(79,83),(85,86)] false [] 0 Proofs.Tryd.f57
noncomputable def af_kilnlaw07_Few := theAF o_kilnlaw07_Few
theorem tr_kilnlaw07_Few : o_kilnlaw07_Few = some af_kilnlaw07_Few := theAF_ok (by kernel_rfl)
noncomputable abbrev o_face_Face_Right := tr [(8,47),(49,49),(54,70),(72,75),(80,107),(109,111)] false [] 0 Proofs.Tryd.f58
noncomputable def af_face_Face_Right := theAF o_face_Face_Right
theorem tr_face_Face_Right : o_face_Face_Right = some af_face_Face_Right := theAF_ok (by kernel_rfl)
noncomputable abbrev o_class_Pool_right := tr [(13,27),(32,34),(36,37),(42,45),(47,48),(53,56),(58,59),(64,88),(90,91),(96,106),(108,108)] false [] 0 Proofs.Tryd.f59
noncomputable def af_class_Pool_right := theAF o_class_Pool_right
theorem tr_class_Pool_right : o_class_Pool_right = some af_class_Pool_right := theAF_ok (by kernel_rfl)
noncomputable abbrev o_op_Instr_Right := tr [(6,8),(10,13),(15,17)] false [(6,opl 12)] 0 Proofs.Tryd.f60
noncomputable def af_op_Instr_Right := theAF o_op_Instr_Right
theorem tr_op_Instr_Right : o_op_Instr_Right = some af_op_Instr_Right := theAF_ok (by kernel_rfl)
noncomputable abbrev o_class_File_many := tr [(5,5)] false [] 0 Proofs.Tryd.f61
noncomputable def af_class_File_many := theAF o_class_File_many
theorem tr_class_File_many : o_class_File_many = some af_class_File_many := theAF_ok (by kernel_rfl)
noncomputable abbrev o_hier_twice := tr [(5,6),(10,10),(29,31),(35,35),(54,54)] false [(4,opl 18),(10,opl 18)] 0 Proofs.Tryd.f62
noncomputable def af_hier_twice := theAF o_hier_twice
theorem tr_hier_twice : o_hier_twice = some af_hier_twice := theAF_ok (by kernel_rfl)
noncomputable abbrev o_face_Face_Field := tr [(8,8),(13,17),(19,22)] false [] 0 Proofs.Tryd.f63
noncomputable def af_face_Face_Field := theAF o_face_Face_Field
theorem tr_face_Face_Field : o_face_Face_Field = some af_face_Face_Field := theAF_ok (by kernel_rfl)
noncomputable abbrev o_slices_Equal_ast_Type_ast_Type := tr [(6,9),(11,11),(15,15),(25,25)] false [(6,opl 9)] 0 Proofs.Tryd.f64
noncomputable def af_slices_Equal_ast_Type_ast_Type := theAF o_slices_Equal_ast_Type_ast_Type
theorem tr_slices_Equal_ast_Type_ast_Type : o_slices_Equal_ast_Type_ast_Type = some af_slices_Equal_ast_Type_ast_Type := theAF_ok (by kernel_rfl)
noncomputable abbrev o_slices_Index_string_string := tr [(6,6),(10,15),(17,18)] false [] 0 Proofs.Tryd.f65
noncomputable def af_slices_Index_string_string := theAF o_slices_Index_string_string
theorem tr_slices_Index_string_string : o_slices_Index_string_string = some af_slices_Index_string_string := theAF_ok (by kernel_rfl)
noncomputable abbrev o_face_Good := tr [(3,22)] false [] 0 Proofs.Tryd.f66
noncomputable def af_face_Good := theAF o_face_Good
theorem tr_face_Good : o_face_Good = some af_face_Good := theAF_ok (by kernel_rfl)
noncomputable abbrev o_ast_Type_Class := tr [(3,22)] false [] 0 Proofs.Tryd.f67
noncomputable def af_ast_Type_Class := theAF o_ast_Type_Class
theorem tr_ast_Type_Class : o_ast_Type_Class = some af_ast_Type_Class := theAF_ok (by kernel_rfl)
noncomputable abbrev o_slices_Equal_ast_Var_ast_Var := tr [(6,9),(11,11),(15,15),(25,25)] false [(6,opl 9)] 0 Proofs.Tryd.f68
noncomputable def af_slices_Equal_ast_Var_ast_Var := theAF o_slices_Equal_ast_Var_ast_Var
theorem tr_slices_Equal_ast_Var_ast_Var : o_slices_Equal_ast_Var_ast_Var = some af_slices_Equal_ast_Var_ast_Var := theAF_ok (by kernel_rfl)
noncomputable abbrev o_slices_EqualFunc_face_Sig_face_Sig_face_Sig_face_Sig := tr [(10,13),(19,29),(31,31)] false [] 0 Proofs.Tryd.f69
noncomputable def af_slices_EqualFunc_face_Sig_face_Sig_face_Sig_face_Sig := theAF o_slices_EqualFunc_face_Sig_face_Sig_face_Sig_face_Sig
theorem tr_slices_EqualFunc_face_Sig_face_Sig_face_Sig_face_Sig : o_slices_EqualFunc_face_Sig_face_Sig_face_Sig_face_Sig = some af_slices_EqualFunc_face_Sig_face_Sig_face_Sig_face_Sig := theAF_ok (by kernel_rfl)
noncomputable abbrev o_slices_ContainsFunc_ast_Type_ast_Type := tr [(5,8)] false [] 0 Proofs.Tryd.f90
noncomputable def af_slices_ContainsFunc_ast_Type_ast_Type := theAF o_slices_ContainsFunc_ast_Type_ast_Type
theorem tr_slices_ContainsFunc_ast_Type_ast_Type : o_slices_ContainsFunc_ast_Type_ast_Type = some af_slices_ContainsFunc_ast_Type_ast_Type := theAF_ok (by kernel_rfl)
noncomputable abbrev o_face_Face_Right_1 := tr [(3,5)] false [] 0 Proofs.Tryd.f91
noncomputable def af_face_Face_Right_1 := theAF o_face_Face_Right_1
theorem tr_face_Face_Right_1 : o_face_Face_Right_1 = some af_face_Face_Right_1 := theAF_ok (by kernel_rfl)
noncomputable abbrev o_class_class := tr [(3,10)] false [] 0 Proofs.Tryd.f92
noncomputable def af_class_class := theAF o_class_class
theorem tr_class_class : o_class_class = some af_class_class := theAF_ok (by kernel_rfl)
noncomputable abbrev o_class_sig := tr [(3,6)] false [] 0 Proofs.Tryd.f93
noncomputable def af_class_sig := theAF o_class_sig
theorem tr_class_sig : o_class_sig = some af_class_sig := theAF_ok (by kernel_rfl)
noncomputable abbrev o_class_File_many_1 := tr [(7,11),(13,17),(19,23),(25,29),(31,35),(37,39),(41,44)] false [] 0 Proofs.Tryd.f94
noncomputable def af_class_File_many_1 := theAF o_class_File_many_1
theorem tr_class_File_many_1 : o_class_File_many_1 = some af_class_File_many_1 := theAF_ok (by kernel_rfl)
noncomputable abbrev o_slices_IndexFunc_ast_Type_ast_Type := tr [(6,6),(10,15),(17,18)] false [] 0 Proofs.Tryd.f108
noncomputable def af_slices_IndexFunc_ast_Type_ast_Type := theAF o_slices_IndexFunc_ast_Type_ast_Type
theorem tr_slices_IndexFunc_ast_Type_ast_Type : o_slices_IndexFunc_ast_Type_ast_Type = some af_slices_IndexFunc_ast_Type_ast_Type := theAF_ok (by kernel_rfl)
noncomputable def F : T AF := (.n none (.n none (.n (some af_kilnlaw14_LinkTurns) (.n none (.n (some af_link_Image_Size) (.n none (.n (some af_face_Face_Field) .e .e) .e) (.n (some af_hier_Table_Known) .e .e)) (.n (some af_link_Image_Body) (.n (some af_hier_New) .e .e) .e)) (.n none (.n (some af_hier_Table_Above) (.n none (.n (some af_ast_Type_Class) .e .e) .e) .e) (.n none (.n (some af_hier_Table_Field) .e .e) (.n (some af_class_Pool_right) (.n (some af_face_Face_Right_1) .e .e) .e)))) (.n (some af_kilnlaw14_LinkErrors) (.n none (.n (some af_link_Image_Find) (.n none (.n (some af_slices_Index_string_string) .e .e) .e) .e) (.n none (.n (some af_link_Image_pool) .e .e) (.n (some af_kilnlaw07_Few) .e .e))) (.n (some af_kilnlaw14_Few) (.n (some af_link_Image_File) (.n (some af_kilnlaw12_Few) (.n (some af_slices_EqualFunc_face_Sig_face_Sig_face_Sig_face_Sig) .e .e) .e) (.n (some af_hier_Table_Method) .e .e)) (.n (some af_ast_Int) (.n (some af_face_Sig_Same) .e .e) (.n (some af_class_File_many) (.n (some af_class_sig) .e .e) .e))))) (.n none (.n (some af_kilnlaw14_LinkMany) (.n none (.n (some af_link_Image_Slot) (.n none (.n (some af_slices_Equal_ast_Type_ast_Type) .e .e) .e) (.n (some af_face_Face_Same) .e .e)) (.n (some af_kilnlaw14_find) (.n (some af_hier_Table_Check) .e .e) (.n (some af_op_Code_Known) .e .e))) (.n (some af_kilnlaw14_head) (.n (some af_kilnlaw14_check) (.n (some af_kilnlaw14_head_1) (.n (some af_slices_Equal_ast_Var_ast_Var) .e .e) .e) .e) (.n none (.n (some af_face_Face_Method) .e (.n (some af_slices_IndexFunc_ast_Type_ast_Type) .e .e)) (.n (some af_op_Instr_Right) (.n (some af_class_class) .e .e) .e)))) (.n none (.n none (.n (some af_link_Image_Names) (.n (some af_op_Code_Pool) (.n (some af_face_Good) .e .e) .e) (.n (some af_ast_Of) .e .e)) (.n none (.n (some af_hier_Table_Face) .e .e) (.n (some af_face_Face_Right) (.n (some af_slices_ContainsFunc_ast_Type_ast_Type) .e .e) .e))) (.n (some af_link_Link) (.n (some af_kilnlaw12_Same) (.n (some af_class_File_Right) .e .e) .e) (.n none (.n (some af_slices_Contains_string_string) .e .e) (.n (some af_hier_twice) (.n (some af_class_File_many_1) .e .e) .e))))))
theorem at_kilnlaw14_LinkTurns : T.get F 3 = some af_kilnlaw14_LinkTurns := by kernel_rfl
theorem at_kilnlaw14_LinkMany : T.get F 4 = some af_kilnlaw14_LinkMany := by kernel_rfl
theorem at_kilnlaw14_LinkErrors : T.get F 5 = some af_kilnlaw14_LinkErrors := by kernel_rfl
theorem at_kilnlaw14_head : T.get F 12 = some af_kilnlaw14_head := by kernel_rfl
theorem at_kilnlaw14_Few : T.get F 13 = some af_kilnlaw14_Few := by kernel_rfl
theorem at_link_Link : T.get F 14 = some af_link_Link := by kernel_rfl
theorem at_link_Image_Size : T.get F 15 = some af_link_Image_Size := by kernel_rfl
theorem at_link_Image_Slot : T.get F 16 = some af_link_Image_Slot := by kernel_rfl
theorem at_link_Image_Find : T.get F 17 = some af_link_Image_Find := by kernel_rfl
theorem at_link_Image_Names : T.get F 18 = some af_link_Image_Names := by kernel_rfl
theorem at_hier_Table_Above : T.get F 19 = some af_hier_Table_Above := by kernel_rfl
theorem at_kilnlaw14_check : T.get F 20 = some af_kilnlaw14_check := by kernel_rfl
theorem at_link_Image_File : T.get F 21 = some af_link_Image_File := by kernel_rfl
theorem at_kilnlaw12_Same : T.get F 22 = some af_kilnlaw12_Same := by kernel_rfl
theorem at_link_Image_Body : T.get F 23 = some af_link_Image_Body := by kernel_rfl
theorem at_kilnlaw14_find : T.get F 24 = some af_kilnlaw14_find := by kernel_rfl
theorem at_ast_Int : T.get F 29 = some af_ast_Int := by kernel_rfl
theorem at_op_Code_Pool : T.get F 34 = some af_op_Code_Pool := by kernel_rfl
theorem at_kilnlaw14_head_1 : T.get F 36 = some af_kilnlaw14_head_1 := by kernel_rfl
theorem at_kilnlaw12_Few : T.get F 37 = some af_kilnlaw12_Few := by kernel_rfl
theorem at_class_File_Right : T.get F 38 = some af_class_File_Right := by kernel_rfl
theorem at_hier_New : T.get F 39 = some af_hier_New := by kernel_rfl
theorem at_hier_Table_Check : T.get F 40 = some af_hier_Table_Check := by kernel_rfl
theorem at_link_Image_pool : T.get F 41 = some af_link_Image_pool := by kernel_rfl
theorem at_hier_Table_Face : T.get F 42 = some af_hier_Table_Face := by kernel_rfl
theorem at_hier_Table_Field : T.get F 43 = some af_hier_Table_Field := by kernel_rfl
theorem at_face_Face_Method : T.get F 44 = some af_face_Face_Method := by kernel_rfl
theorem at_face_Sig_Same : T.get F 45 = some af_face_Sig_Same := by kernel_rfl
theorem at_slices_Contains_string_string : T.get F 46 = some af_slices_Contains_string_string := by kernel_rfl
theorem at_hier_Table_Known : T.get F 47 = some af_hier_Table_Known := by kernel_rfl
theorem at_face_Face_Same : T.get F 48 = some af_face_Face_Same := by kernel_rfl
theorem at_ast_Of : T.get F 50 = some af_ast_Of := by kernel_rfl
theorem at_hier_Table_Method : T.get F 53 = some af_hier_Table_Method := by kernel_rfl
theorem at_op_Code_Known : T.get F 56 = some af_op_Code_Known := by kernel_rfl
theorem at_kilnlaw07_Few : T.get F 57 = some af_kilnlaw07_Few := by kernel_rfl
theorem at_face_Face_Right : T.get F 58 = some af_face_Face_Right := by kernel_rfl
theorem at_class_Pool_right : T.get F 59 = some af_class_Pool_right := by kernel_rfl
theorem at_op_Instr_Right : T.get F 60 = some af_op_Instr_Right := by kernel_rfl
theorem at_class_File_many : T.get F 61 = some af_class_File_many := by kernel_rfl
theorem at_hier_twice : T.get F 62 = some af_hier_twice := by kernel_rfl
theorem at_face_Face_Field : T.get F 63 = some af_face_Face_Field := by kernel_rfl
theorem at_slices_Equal_ast_Type_ast_Type : T.get F 64 = some af_slices_Equal_ast_Type_ast_Type := by kernel_rfl
theorem at_slices_Index_string_string : T.get F 65 = some af_slices_Index_string_string := by kernel_rfl
theorem at_face_Good : T.get F 66 = some af_face_Good := by kernel_rfl
theorem at_ast_Type_Class : T.get F 67 = some af_ast_Type_Class := by kernel_rfl
theorem at_slices_Equal_ast_Var_ast_Var : T.get F 68 = some af_slices_Equal_ast_Var_ast_Var := by kernel_rfl
theorem at_slices_EqualFunc_face_Sig_face_Sig_face_Sig_face_Sig : T.get F 69 = some af_slices_EqualFunc_face_Sig_face_Sig_face_Sig_face_Sig := by kernel_rfl
theorem at_slices_ContainsFunc_ast_Type_ast_Type : T.get F 90 = some af_slices_ContainsFunc_ast_Type_ast_Type := by kernel_rfl
theorem at_face_Face_Right_1 : T.get F 91 = some af_face_Face_Right_1 := by kernel_rfl
theorem at_class_class : T.get F 92 = some af_class_class := by kernel_rfl
theorem at_class_sig : T.get F 93 = some af_class_sig := by kernel_rfl
theorem at_class_File_many_1 : T.get F 94 = some af_class_File_many_1 := by kernel_rfl
theorem at_slices_IndexFunc_ast_Type_ast_Type : T.get F 108 = some af_slices_IndexFunc_ast_Type_ast_Type := by kernel_rfl
end Go.RL

/- All functions are right. -/
namespace Go.RL
open Go.Eng
set_option maxRecDepth 100000
abbrev Fg (n : Nat) (a : AF) : Prop := FnGood Go.Proofs.Tryd.prog F n a
theorem good_kilnlaw14_LinkTurns : Fg 3 af_kilnlaw14_LinkTurns := .one Proofs.Tryd.func3 (by kernel_rfl) tr_kilnlaw14_LinkTurns (by kernel_rfl) (by kernel_rfl)
theorem good_kilnlaw14_LinkMany : Fg 4 af_kilnlaw14_LinkMany := .one Proofs.Tryd.func4 (by kernel_rfl) tr_kilnlaw14_LinkMany (by kernel_rfl) (by kernel_rfl)
theorem good_kilnlaw14_LinkErrors : Fg 5 af_kilnlaw14_LinkErrors := .one Proofs.Tryd.func5 (by kernel_rfl) tr_kilnlaw14_LinkErrors (by kernel_rfl) (by kernel_rfl)
theorem good_kilnlaw14_head : Fg 12 af_kilnlaw14_head := .one Proofs.Tryd.func12 (by kernel_rfl) tr_kilnlaw14_head (by kernel_rfl) (by kernel_rfl)
theorem good_kilnlaw14_Few : Fg 13 af_kilnlaw14_Few := .one Proofs.Tryd.func13 (by kernel_rfl) tr_kilnlaw14_Few (by kernel_rfl) (by kernel_rfl)
theorem good_link_Link : Fg 14 af_link_Link := .one Proofs.Tryd.func14 (by kernel_rfl) tr_link_Link (by kernel_rfl) (by kernel_rfl)
theorem good_link_Image_Size : Fg 15 af_link_Image_Size := .one Proofs.Tryd.func15 (by kernel_rfl) tr_link_Image_Size (by kernel_rfl) (by kernel_rfl)
theorem good_link_Image_Slot : Fg 16 af_link_Image_Slot := .one Proofs.Tryd.func16 (by kernel_rfl) tr_link_Image_Slot (by kernel_rfl) (by kernel_rfl)
theorem good_link_Image_Find : Fg 17 af_link_Image_Find := .one Proofs.Tryd.func17 (by kernel_rfl) tr_link_Image_Find (by kernel_rfl) (by kernel_rfl)
theorem good_link_Image_Names : Fg 18 af_link_Image_Names := .one Proofs.Tryd.func18 (by kernel_rfl) tr_link_Image_Names (by kernel_rfl) (by kernel_rfl)
theorem good_hier_Table_Above : Fg 19 af_hier_Table_Above := .one Proofs.Tryd.func19 (by kernel_rfl) tr_hier_Table_Above (by kernel_rfl) (by kernel_rfl)
theorem good_kilnlaw14_check : Fg 20 af_kilnlaw14_check := .one Proofs.Tryd.func20 (by kernel_rfl) tr_kilnlaw14_check (by kernel_rfl) (by kernel_rfl)
theorem good_link_Image_File : Fg 21 af_link_Image_File := .one Proofs.Tryd.func21 (by kernel_rfl) tr_link_Image_File (by kernel_rfl) (by kernel_rfl)
theorem good_kilnlaw12_Same : Fg 22 af_kilnlaw12_Same := .one Proofs.Tryd.func22 (by kernel_rfl) tr_kilnlaw12_Same (by kernel_rfl) (by kernel_rfl)
theorem good_link_Image_Body : Fg 23 af_link_Image_Body := .one Proofs.Tryd.func23 (by kernel_rfl) tr_link_Image_Body (by kernel_rfl) (by kernel_rfl)
theorem good_kilnlaw14_find : Fg 24 af_kilnlaw14_find := .one Proofs.Tryd.func24 (by kernel_rfl) tr_kilnlaw14_find (by kernel_rfl) (by kernel_rfl)
theorem good_ast_Int : Fg 29 af_ast_Int := .one Proofs.Tryd.func29 (by kernel_rfl) tr_ast_Int (by kernel_rfl) (by kernel_rfl)
theorem good_op_Code_Pool : Fg 34 af_op_Code_Pool := .one Proofs.Tryd.func34 (by kernel_rfl) tr_op_Code_Pool (by kernel_rfl) (by kernel_rfl)
theorem good_kilnlaw14_head_1 : Fg 36 af_kilnlaw14_head_1 := .one Proofs.Tryd.func36 (by kernel_rfl) tr_kilnlaw14_head_1 (by kernel_rfl) (by kernel_rfl)
theorem good_kilnlaw12_Few : Fg 37 af_kilnlaw12_Few := .one Proofs.Tryd.func37 (by kernel_rfl) tr_kilnlaw12_Few (by kernel_rfl) (by kernel_rfl)
theorem good_class_File_Right : Fg 38 af_class_File_Right := .one Proofs.Tryd.func38 (by kernel_rfl) tr_class_File_Right (by kernel_rfl) (by kernel_rfl)
theorem good_hier_New : Fg 39 af_hier_New := .one Proofs.Tryd.func39 (by kernel_rfl) tr_hier_New (by kernel_rfl) (by kernel_rfl)
theorem good_hier_Table_Check : Fg 40 af_hier_Table_Check := .one Proofs.Tryd.func40 (by kernel_rfl) tr_hier_Table_Check (by kernel_rfl) (by kernel_rfl)
theorem good_link_Image_pool : Fg 41 af_link_Image_pool := .one Proofs.Tryd.func41 (by kernel_rfl) tr_link_Image_pool (by kernel_rfl) (by kernel_rfl)
theorem good_hier_Table_Face : Fg 42 af_hier_Table_Face := .one Proofs.Tryd.func42 (by kernel_rfl) tr_hier_Table_Face (by kernel_rfl) (by kernel_rfl)
theorem good_hier_Table_Field : Fg 43 af_hier_Table_Field := .one Proofs.Tryd.func43 (by kernel_rfl) tr_hier_Table_Field (by kernel_rfl) (by kernel_rfl)
theorem good_face_Face_Method : Fg 44 af_face_Face_Method := .one Proofs.Tryd.func44 (by kernel_rfl) tr_face_Face_Method (by kernel_rfl) (by kernel_rfl)
theorem good_face_Sig_Same : Fg 45 af_face_Sig_Same := .one Proofs.Tryd.func45 (by kernel_rfl) tr_face_Sig_Same (by kernel_rfl) (by kernel_rfl)
theorem good_slices_Contains_string_string : Fg 46 af_slices_Contains_string_string := .one Proofs.Tryd.func46 (by kernel_rfl) tr_slices_Contains_string_string (by kernel_rfl) (by kernel_rfl)
theorem good_hier_Table_Known : Fg 47 af_hier_Table_Known := .one Proofs.Tryd.func47 (by kernel_rfl) tr_hier_Table_Known (by kernel_rfl) (by kernel_rfl)
theorem good_face_Face_Same : Fg 48 af_face_Face_Same := .one Proofs.Tryd.func48 (by kernel_rfl) tr_face_Face_Same (by kernel_rfl) (by kernel_rfl)
theorem good_ast_Of : Fg 50 af_ast_Of := .one Proofs.Tryd.func50 (by kernel_rfl) tr_ast_Of (by kernel_rfl) (by kernel_rfl)
theorem good_hier_Table_Method : Fg 53 af_hier_Table_Method := .one Proofs.Tryd.func53 (by kernel_rfl) tr_hier_Table_Method (by kernel_rfl) (by kernel_rfl)
theorem good_op_Code_Known : Fg 56 af_op_Code_Known := .one Proofs.Tryd.func56 (by kernel_rfl) tr_op_Code_Known (by kernel_rfl) (by kernel_rfl)
theorem good_kilnlaw07_Few : Fg 57 af_kilnlaw07_Few := .one Proofs.Tryd.func57 (by kernel_rfl) tr_kilnlaw07_Few (by kernel_rfl) (by kernel_rfl)
theorem good_face_Face_Right : Fg 58 af_face_Face_Right := .one Proofs.Tryd.func58 (by kernel_rfl) tr_face_Face_Right (by kernel_rfl) (by kernel_rfl)
theorem good_class_Pool_right : Fg 59 af_class_Pool_right := .one Proofs.Tryd.func59 (by kernel_rfl) tr_class_Pool_right (by kernel_rfl) (by kernel_rfl)
theorem good_op_Instr_Right : Fg 60 af_op_Instr_Right := .one Proofs.Tryd.func60 (by kernel_rfl) tr_op_Instr_Right (by kernel_rfl) (by kernel_rfl)
theorem good_class_File_many : Fg 61 af_class_File_many := .one Proofs.Tryd.func61 (by kernel_rfl) tr_class_File_many (by kernel_rfl) (by kernel_rfl)
theorem good_hier_twice : Fg 62 af_hier_twice := .one Proofs.Tryd.func62 (by kernel_rfl) tr_hier_twice (by kernel_rfl) (by kernel_rfl)
theorem good_face_Face_Field : Fg 63 af_face_Face_Field := .one Proofs.Tryd.func63 (by kernel_rfl) tr_face_Face_Field (by kernel_rfl) (by kernel_rfl)
theorem good_slices_Equal_ast_Type_ast_Type : Fg 64 af_slices_Equal_ast_Type_ast_Type := .one Proofs.Tryd.func64 (by kernel_rfl) tr_slices_Equal_ast_Type_ast_Type (by kernel_rfl) (by kernel_rfl)
theorem good_slices_Index_string_string : Fg 65 af_slices_Index_string_string := .one Proofs.Tryd.func65 (by kernel_rfl) tr_slices_Index_string_string (by kernel_rfl) (by kernel_rfl)
theorem good_face_Good : Fg 66 af_face_Good := .one Proofs.Tryd.func66 (by kernel_rfl) tr_face_Good (by kernel_rfl) (by kernel_rfl)
theorem good_ast_Type_Class : Fg 67 af_ast_Type_Class := .one Proofs.Tryd.func67 (by kernel_rfl) tr_ast_Type_Class (by kernel_rfl) (by kernel_rfl)
theorem good_slices_Equal_ast_Var_ast_Var : Fg 68 af_slices_Equal_ast_Var_ast_Var := .one Proofs.Tryd.func68 (by kernel_rfl) tr_slices_Equal_ast_Var_ast_Var (by kernel_rfl) (by kernel_rfl)
theorem good_slices_EqualFunc_face_Sig_face_Sig_face_Sig_face_Sig : Fg 69 af_slices_EqualFunc_face_Sig_face_Sig_face_Sig_face_Sig := .one Proofs.Tryd.func69 (by kernel_rfl) tr_slices_EqualFunc_face_Sig_face_Sig_face_Sig_face_Sig (by kernel_rfl) (by kernel_rfl)
theorem good_slices_ContainsFunc_ast_Type_ast_Type : Fg 90 af_slices_ContainsFunc_ast_Type_ast_Type := .one Proofs.Tryd.func90 (by kernel_rfl) tr_slices_ContainsFunc_ast_Type_ast_Type (by kernel_rfl) (by kernel_rfl)
theorem good_face_Face_Right_1 : Fg 91 af_face_Face_Right_1 := .one Proofs.Tryd.func91 (by kernel_rfl) tr_face_Face_Right_1 (by kernel_rfl) (by kernel_rfl)
theorem good_class_class : Fg 92 af_class_class := .one Proofs.Tryd.func92 (by kernel_rfl) tr_class_class (by kernel_rfl) (by kernel_rfl)
theorem good_class_sig : Fg 93 af_class_sig := .one Proofs.Tryd.func93 (by kernel_rfl) tr_class_sig (by kernel_rfl) (by kernel_rfl)
theorem good_class_File_many_1 : Fg 94 af_class_File_many_1 := .one Proofs.Tryd.func94 (by kernel_rfl) tr_class_File_many_1 (by kernel_rfl) (by kernel_rfl)
theorem good_slices_IndexFunc_ast_Type_ast_Type : Fg 108 af_slices_IndexFunc_ast_Type_ast_Type := .one Proofs.Tryd.func108 (by kernel_rfl) tr_slices_IndexFunc_ast_Type_ast_Type (by kernel_rfl) (by kernel_rfl)
theorem all_good : T.All (fun p af => FnGood Go.Proofs.Tryd.prog F p.key af) F := (.n0 (.n0 (.n1 good_kilnlaw14_LinkTurns (.n0 (.n1 good_link_Image_Size (.n0 (.n1 good_face_Face_Field .e .e) .e) (.n1 good_hier_Table_Known .e .e)) (.n1 good_link_Image_Body (.n1 good_hier_New .e .e) .e)) (.n0 (.n1 good_hier_Table_Above (.n0 (.n1 good_ast_Type_Class .e .e) .e) .e) (.n0 (.n1 good_hier_Table_Field .e .e) (.n1 good_class_Pool_right (.n1 good_face_Face_Right_1 .e .e) .e)))) (.n1 good_kilnlaw14_LinkErrors (.n0 (.n1 good_link_Image_Find (.n0 (.n1 good_slices_Index_string_string .e .e) .e) .e) (.n0 (.n1 good_link_Image_pool .e .e) (.n1 good_kilnlaw07_Few .e .e))) (.n1 good_kilnlaw14_Few (.n1 good_link_Image_File (.n1 good_kilnlaw12_Few (.n1 good_slices_EqualFunc_face_Sig_face_Sig_face_Sig_face_Sig .e .e) .e) (.n1 good_hier_Table_Method .e .e)) (.n1 good_ast_Int (.n1 good_face_Sig_Same .e .e) (.n1 good_class_File_many (.n1 good_class_sig .e .e) .e))))) (.n0 (.n1 good_kilnlaw14_LinkMany (.n0 (.n1 good_link_Image_Slot (.n0 (.n1 good_slices_Equal_ast_Type_ast_Type .e .e) .e) (.n1 good_face_Face_Same .e .e)) (.n1 good_kilnlaw14_find (.n1 good_hier_Table_Check .e .e) (.n1 good_op_Code_Known .e .e))) (.n1 good_kilnlaw14_head (.n1 good_kilnlaw14_check (.n1 good_kilnlaw14_head_1 (.n1 good_slices_Equal_ast_Var_ast_Var .e .e) .e) .e) (.n0 (.n1 good_face_Face_Method .e (.n1 good_slices_IndexFunc_ast_Type_ast_Type .e .e)) (.n1 good_op_Instr_Right (.n1 good_class_class .e .e) .e)))) (.n0 (.n0 (.n1 good_link_Image_Names (.n1 good_op_Code_Pool (.n1 good_face_Good .e .e) .e) (.n1 good_ast_Of .e .e)) (.n0 (.n1 good_hier_Table_Face .e .e) (.n1 good_face_Face_Right (.n1 good_slices_ContainsFunc_ast_Type_ast_Type .e .e) .e))) (.n1 good_link_Link (.n1 good_kilnlaw12_Same (.n1 good_class_File_Right .e .e) .e) (.n0 (.n1 good_slices_Contains_string_string .e .e) (.n1 good_hier_twice (.n1 good_class_File_many_1 .e .e) .e))))))
theorem fns_ok : FnsOk Go.Proofs.Tryd.prog F := .of_all (by kernel_rfl) all_good
end Go.RL

