/- Part of a proof: texts PQNm PQTr PQOk of the engine and what is proved with it; nothing is assumed. -/
import Derived.Test.YtcjkfmaoahojeaaDoorEngA
import Derived.Test.YtcjkfmaoahojeaaDoorEngF
import Derived.Test.YtcjkfmaoahojeaaDoorProg
set_option linter.unusedVariables false
set_option linter.unusedSimpArgs false
/- Registers. -/
namespace Go.PQ
open Go.Eng
def q0 : P2 := .h
def q1 : P2 := .z q0
def q2 : P2 := .o q0
def q3 : P2 := .z q1
def q4 : P2 := .o q1
def q5 : P2 := .z q2
def q6 : P2 := .o q2
def q7 : P2 := .z q3
def q8 : P2 := .o q3
def q9 : P2 := .z q4
def q10 : P2 := .o q4
def q11 : P2 := .z q5
def q12 : P2 := .o q5
def q13 : P2 := .z q6
def q14 : P2 := .o q6
def q15 : P2 := .z q7
def q16 : P2 := .o q7
def q17 : P2 := .z q8
def q18 : P2 := .o q8
def q19 : P2 := .z q9
def q20 : P2 := .o q9
def q21 : P2 := .z q10
def q22 : P2 := .o q10
def q23 : P2 := .z q11
def q24 : P2 := .o q11
def q25 : P2 := .z q12
def q26 : P2 := .o q12
def q27 : P2 := .z q13
def q28 : P2 := .o q13
def q29 : P2 := .z q14
def q30 : P2 := .o q14
def q31 : P2 := .z q15
def q32 : P2 := .o q15
def q33 : P2 := .z q16
def q34 : P2 := .o q16
def q35 : P2 := .z q17
def q36 : P2 := .o q17
def q37 : P2 := .z q18
def q38 : P2 := .o q18
def q39 : P2 := .z q19
def q40 : P2 := .o q19
def q41 : P2 := .z q20
def q42 : P2 := .o q20
def q43 : P2 := .z q21
def q44 : P2 := .o q21
def q45 : P2 := .z q22
def q46 : P2 := .o q22
def q47 : P2 := .z q23
def q48 : P2 := .o q23
def q49 : P2 := .z q24
def q50 : P2 := .o q24
def q51 : P2 := .z q25
def q52 : P2 := .o q25
def q53 : P2 := .z q26
def q54 : P2 := .o q26
def q55 : P2 := .z q27
def q56 : P2 := .o q27
def q57 : P2 := .z q28
def q58 : P2 := .o q28
def q59 : P2 := .z q29
def q60 : P2 := .o q29
def q61 : P2 := .z q30
def q62 : P2 := .o q30
def q63 : P2 := .z q31
def q64 : P2 := .o q31
def q65 : P2 := .z q32
def q66 : P2 := .o q32
def q67 : P2 := .z q33
def q68 : P2 := .o q33
def q69 : P2 := .z q34
def q70 : P2 := .o q34
def q71 : P2 := .z q35
def q72 : P2 := .o q35
def q73 : P2 := .z q36
def q74 : P2 := .o q36
def q75 : P2 := .z q37
def q76 : P2 := .o q37
def q77 : P2 := .z q38
def q78 : P2 := .o q38
def q79 : P2 := .z q39
def q80 : P2 := .o q39
def q81 : P2 := .z q40
def q82 : P2 := .o q40
def q83 : P2 := .z q41
def q84 : P2 := .o q41
def q85 : P2 := .z q42
def q86 : P2 := .o q42
def q87 : P2 := .z q43
def q88 : P2 := .o q43
def q89 : P2 := .z q44
def q90 : P2 := .o q44
def q91 : P2 := .z q45
def q92 : P2 := .o q45
def q93 : P2 := .z q46
def q94 : P2 := .o q46
def q95 : P2 := .z q47
def q96 : P2 := .o q47
def q97 : P2 := .z q48
def q98 : P2 := .o q48
def q99 : P2 := .z q49
def q100 : P2 := .o q49
def q101 : P2 := .z q50
def q102 : P2 := .o q50
def q103 : P2 := .z q51
def q104 : P2 := .o q51
def q105 : P2 := .z q52
def q106 : P2 := .o q52
def q107 : P2 := .z q53
def q108 : P2 := .o q53
def q109 : P2 := .z q54
def q110 : P2 := .o q54
def q111 : P2 := .z q55
def q112 : P2 := .o q55
def q113 : P2 := .z q56
def q114 : P2 := .o q56
def q115 : P2 := .z q57
def q116 : P2 := .o q57
def q117 : P2 := .z q58
def q118 : P2 := .o q58
def q119 : P2 := .z q59
def q120 : P2 := .o q59
def q121 : P2 := .z q60
def q122 : P2 := .o q60
def q123 : P2 := .z q61
def q124 : P2 := .o q61
def q125 : P2 := .z q62
def q126 : P2 := .o q62
def q127 : P2 := .z q63
def q128 : P2 := .o q63
def q129 : P2 := .z q64
def q130 : P2 := .o q64
def q131 : P2 := .z q65
def q132 : P2 := .o q65
def q133 : P2 := .z q66
def q134 : P2 := .o q66
def q135 : P2 := .z q67
def q136 : P2 := .o q67
def q137 : P2 := .z q68
def q138 : P2 := .o q68
def q139 : P2 := .z q69
def q140 : P2 := .o q69
def q141 : P2 := .z q70
def q142 : P2 := .o q70
def q143 : P2 := .z q71
def q144 : P2 := .o q71
def q145 : P2 := .z q72
def q146 : P2 := .o q72
def q147 : P2 := .z q73
def q148 : P2 := .o q73
def q149 : P2 := .z q74
def q150 : P2 := .o q74
def q151 : P2 := .z q75
def q152 : P2 := .o q75
def q153 : P2 := .z q76
def q154 : P2 := .o q76
def q155 : P2 := .z q77
def q156 : P2 := .o q77
def q157 : P2 := .z q78
def q158 : P2 := .o q78
def q159 : P2 := .z q79
def q160 : P2 := .o q79
def q161 : P2 := .z q80
abbrev n_kilnlaw06_ParseNests : Nat := 4
abbrev n_kilnlaw06_head : Nat := 9
abbrev n_parse_Class : Nat := 10
abbrev n_kilnlaw06_ParseNests_1 : Nat := 11
abbrev n_kilnlaw06_ParseNests_2 : Nat := 12
abbrev n_kilnlaw06_ret : Nat := 19
abbrev n_lex_All : Nat := 24
abbrev n_parse_parser_class : Nat := 25
abbrev n_parse_parser_ok : Nat := 26
abbrev n_lex_lexer_skip : Nat := 38
abbrev n_lex_lexer_next : Nat := 39
abbrev n_parse_parser_want : Nat := 40
abbrev n_parse_parser_name : Nat := 41
abbrev n_parse_parser_take : Nat := 42
abbrev n_parse_parser_typ : Nat := 43
abbrev n_parse_parser_many : Nat := 44
abbrev n_parse_parser_is : Nat := 45
abbrev n_parse_parser_method : Nat := 46
abbrev n_parse_parser_fail : Nat := 47
abbrev n_lex_lexer_step : Nat := 58
abbrev n_strings_HasPrefix : Nat := 59
abbrev n_strings_IndexByte : Nat := 60
abbrev n_lex_great : Nat := 61
abbrev n_lex_lexer_run : Nat := 62
abbrev n_lex_inner : Nat := 63
abbrev n_lex_small : Nat := 64
abbrev n_lex_words : Nat := 65
abbrev n_lex_digit : Nat := 66
abbrev n_lex_number : Nat := 67
abbrev n_parse_parser_next : Nat := 68
abbrev n_parse_parser_base : Nat := 69
abbrev n_parse_parser_block : Nat := 70
abbrev n_internal_stringslite_HasPrefix : Nat := 81
abbrev n_internal_stringslite_IndexByte : Nat := 82
abbrev n_ast_Int : Nat := 83
abbrev n_ast_Bool : Nat := 84
abbrev n_ast_Of : Nat := 85
abbrev n_parse_parser_down : Nat := 86
abbrev n_parse_parser_stmt : Nat := 87
abbrev n_parse_parser_down_1 : Nat := 95
abbrev n_parse_parser_expr : Nat := 96
abbrev n_parse_parser_choice : Nat := 97
abbrev n_parse_parser_plain : Nat := 98
abbrev n_parse_parser_either : Nat := 103
abbrev n_parse_parser_expr_1 : Nat := 104
abbrev n_parse_parser_compared : Nat := 105
abbrev n_parse_parser_compared_1 : Nat := 106
abbrev n_parse_parser_signs : Nat := 107
abbrev n_parse_parser_compared_1_1 : Nat := 108
abbrev n_parse_parser_unary : Nat := 109
abbrev n_parse_parser_parts : Nat := 110
abbrev n_parse_parser_prim : Nat := 111
abbrev n_parse_parser_member : Nat := 112
abbrev n_parse_parser_args : Nat := 113
abbrev n_ast_Type_Class : Nat := 114
end Go.PQ

/- The abstract code is what the program has: the translation, run by the kernel. -/
namespace Go.PQ
open Go.Eng
set_option maxRecDepth 100000
noncomputable abbrev tr (l : List (Nat × Nat)) (d : Bool) (o : Ords) (g : Nat) (f : Func) : Option AF := trF Go.Proofs.Tryd.prog (inR l) d o g f
noncomputable abbrev o_kilnlaw06_ParseNests := tr [(7,7),(9,9),(11,11),(13,13),(15,15),(17,17),(19,24),(27,56),(58,83),(85,112),(114,160)] false [] 0 Proofs.Tryd.f4
noncomputable def af_kilnlaw06_ParseNests := theAF o_kilnlaw06_ParseNests
theorem tr_kilnlaw06_ParseNests : o_kilnlaw06_ParseNests = some af_kilnlaw06_ParseNests := theAF_ok (by kernel_rfl)
noncomputable abbrev o_kilnlaw06_head := tr [(3,41)] false [] 0 Proofs.Tryd.f9
noncomputable def af_kilnlaw06_head := theAF o_kilnlaw06_head
theorem tr_kilnlaw06_head : o_kilnlaw06_head = some af_kilnlaw06_head := theAF_ok (by kernel_rfl)
noncomputable abbrev o_parse_Class := tr [(8,14),(18,24),(31,32)] false [(3,opl 4),(7,opl 7)] 0 Proofs.Tryd.f10
noncomputable def af_parse_Class := theAF o_parse_Class
theorem tr_parse_Class : o_parse_Class = some af_parse_Class := theAF_ok (by kernel_rfl)
noncomputable abbrev o_kilnlaw06_ParseNests_1 := tr [(6,7),(9,14)] false [] 0 Proofs.Tryd.f11
noncomputable def af_kilnlaw06_ParseNests_1 := theAF o_kilnlaw06_ParseNests_1
theorem tr_kilnlaw06_ParseNests_1 : o_kilnlaw06_ParseNests_1 = some af_kilnlaw06_ParseNests_1 := theAF_ok (by kernel_rfl)
noncomputable abbrev o_kilnlaw06_ParseNests_2 := tr [(3,5)] false [] 0 Proofs.Tryd.f12
noncomputable def af_kilnlaw06_ParseNests_2 := theAF o_kilnlaw06_ParseNests_2
theorem tr_kilnlaw06_ParseNests_2 : o_kilnlaw06_ParseNests_2 = some af_kilnlaw06_ParseNests_2 := theAF_ok (by kernel_rfl)
noncomputable abbrev o_kilnlaw06_ret := tr [(6,41)] false [(3,opl 4),(4,opl 13)] 0 Proofs.Tryd.f19
noncomputable def af_kilnlaw06_ret := theAF o_kilnlaw06_ret
theorem tr_kilnlaw06_ret : o_kilnlaw06_ret = some af_kilnlaw06_ret := theAF_ok (by kernel_rfl)
noncomputable abbrev o_lex_All := tr [(8,13),(20,27),(35,40),(42,43)] false [(3,opl 7),(8,opl 8)] 0 Proofs.Tryd.f24
noncomputable def af_lex_All := theAF o_lex_All
theorem tr_lex_All : o_lex_All = some af_lex_All := theAF_ok (by kernel_rfl)
noncomputable abbrev o_parse_parser_class := tr [(5,19),(21,32),(34,35),(37,40),(50,57),(59,61),(69,84),(86,88)] false [(11,opp [0,1,2,4,3,5,6,7,8,9]),(15,opl 8)] 0 Proofs.Tryd.f25
noncomputable def af_parse_parser_class := theAF o_parse_parser_class
theorem tr_parse_parser_class : o_parse_parser_class = some af_parse_parser_class := theAF_ok (by kernel_rfl)
noncomputable abbrev o_parse_parser_ok := tr [(3,8)] false [] 0 Proofs.Tryd.f26
noncomputable def af_parse_parser_ok := theAF o_parse_parser_ok
theorem tr_parse_parser_ok : o_parse_parser_ok = some af_parse_parser_ok := theAF_ok (by kernel_rfl)
noncomputable abbrev o_lex_lexer_skip := tr [(24,39),(61,61),(73,75)] false [(0,opl 10),(1,opl 10),(4,opl 11),(5,opl 11),(7,opl 11)] 0 Proofs.Tryd.f38
noncomputable def af_lex_lexer_skip := theAF o_lex_lexer_skip
theorem tr_lex_lexer_skip : o_lex_lexer_skip = some af_lex_lexer_skip := theAF_ok (by kernel_rfl)
noncomputable abbrev o_lex_lexer_next := tr [(9,13),(24,24),(37,37),(49,52),(54,59),(61,68),(70,70),(72,85),(87,87),(89,92),(94,109)] false [(2,opl 10),(4,opl 10),(8,opl 11)] 0 Proofs.Tryd.f39
noncomputable def af_lex_lexer_next := theAF o_lex_lexer_next
theorem tr_lex_lexer_next : o_lex_lexer_next = some af_lex_lexer_next := theAF_ok (by kernel_rfl)
noncomputable abbrev o_parse_parser_want := tr [(10,14),(16,18)] false [] 0 Proofs.Tryd.f40
noncomputable def af_parse_parser_want := theAF o_parse_parser_want
theorem tr_parse_parser_want : o_parse_parser_want = some af_parse_parser_want := theAF_ok (by kernel_rfl)
noncomputable abbrev o_parse_parser_name := tr [(5,17),(19,23)] false [] 0 Proofs.Tryd.f41
noncomputable def af_parse_parser_name := theAF o_parse_parser_name
theorem tr_parse_parser_name : o_parse_parser_name = some af_parse_parser_name := theAF_ok (by kernel_rfl)
noncomputable abbrev o_parse_parser_take := tr [(5,8),(10,11)] false [] 0 Proofs.Tryd.f42
noncomputable def af_parse_parser_take := theAF o_parse_parser_take
theorem tr_parse_parser_take : o_parse_parser_take = some af_parse_parser_take := theAF_ok (by kernel_rfl)
noncomputable abbrev o_parse_parser_typ := tr [(4,6),(8,12)] false [] 0 Proofs.Tryd.f43
noncomputable def af_parse_parser_typ := theAF o_parse_parser_typ
theorem tr_parse_parser_typ : o_parse_parser_typ = some af_parse_parser_typ := theAF_ok (by kernel_rfl)
noncomputable abbrev o_parse_parser_many := tr [(4,4),(6,7)] false [] 0 Proofs.Tryd.f44
noncomputable def af_parse_parser_many := theAF o_parse_parser_many
theorem tr_parse_parser_many : o_parse_parser_many = some af_parse_parser_many := theAF_ok (by kernel_rfl)
noncomputable abbrev o_parse_parser_is := tr [(11,44),(46,46)] false [] 0 Proofs.Tryd.f45
noncomputable def af_parse_parser_is := theAF o_parse_parser_is
theorem tr_parse_parser_is : o_parse_parser_is = some af_parse_parser_is := theAF_ok (by kernel_rfl)
noncomputable abbrev o_parse_parser_method := tr [(6,12),(17,34),(36,38),(40,44),(54,62)] false [(2,opp [0,1,4,2,3,5]),(11,opp [0,1,2,4,3,5,6,7,8,9])] 0 Proofs.Tryd.f46
noncomputable def af_parse_parser_method := theAF o_parse_parser_method
theorem tr_parse_parser_method : o_parse_parser_method = some af_parse_parser_method := theAF_ok (by kernel_rfl)
noncomputable abbrev o_parse_parser_fail := tr [(4,8),(10,21)] false [] 0 Proofs.Tryd.f47
noncomputable def af_parse_parser_fail := theAF o_parse_parser_fail
theorem tr_parse_parser_fail : o_parse_parser_fail = some af_parse_parser_fail := theAF_ok (by kernel_rfl)
noncomputable abbrev o_lex_lexer_step := tr [(7,15),(26,43)] false [(3,opl 10)] 0 Proofs.Tryd.f58
noncomputable def af_lex_lexer_step := theAF o_lex_lexer_step
theorem tr_lex_lexer_step : o_lex_lexer_step = some af_lex_lexer_step := theAF_ok (by kernel_rfl)
noncomputable abbrev o_strings_HasPrefix := tr [(5,7)] false [] 0 Proofs.Tryd.f59
noncomputable def af_strings_HasPrefix := theAF o_strings_HasPrefix
theorem tr_strings_HasPrefix : o_strings_HasPrefix = some af_strings_HasPrefix := theAF_ok (by kernel_rfl)
noncomputable abbrev o_strings_IndexByte := tr [(5,7)] false [] 0 Proofs.Tryd.f60
noncomputable def af_strings_IndexByte := theAF o_strings_IndexByte
theorem tr_strings_IndexByte : o_strings_IndexByte = some af_strings_IndexByte := theAF_ok (by kernel_rfl)
noncomputable abbrev o_lex_great := tr [(3,8)] false [] 0 Proofs.Tryd.f61
noncomputable def af_lex_great := theAF o_lex_great
theorem tr_lex_great : o_lex_great = some af_lex_great := theAF_ok (by kernel_rfl)
noncomputable abbrev o_lex_lexer_run := tr [(33,34)] false [(2,opl 27),(4,opl 16)] 0 Proofs.Tryd.f62
noncomputable def af_lex_lexer_run := theAF o_lex_lexer_run
theorem tr_lex_lexer_run : o_lex_lexer_run = some af_lex_lexer_run := theAF_ok (by kernel_rfl)
noncomputable abbrev o_lex_inner := tr [(3,16)] false [] 0 Proofs.Tryd.f63
noncomputable def af_lex_inner := theAF o_lex_inner
theorem tr_lex_inner : o_lex_inner = some af_lex_inner := theAF_ok (by kernel_rfl)
noncomputable abbrev o_lex_small := tr [(3,8)] false [] 0 Proofs.Tryd.f64
noncomputable def af_lex_small := theAF o_lex_small
theorem tr_lex_small : o_lex_small = some af_lex_small := theAF_ok (by kernel_rfl)
noncomputable abbrev o_lex_words := tr [(5,25)] false [] 0 Proofs.Tryd.f65
noncomputable def af_lex_words := theAF o_lex_words
theorem tr_lex_words : o_lex_words = some af_lex_words := theAF_ok (by kernel_rfl)
noncomputable abbrev o_lex_digit := tr [(3,8)] false [] 0 Proofs.Tryd.f66
noncomputable def af_lex_digit := theAF o_lex_digit
theorem tr_lex_digit : o_lex_digit = some af_lex_digit := theAF_ok (by kernel_rfl)
noncomputable abbrev o_lex_number := tr [(7,7),(12,20),(22,23)] false [] 0 Proofs.Tryd.f67
noncomputable def af_lex_number := theAF o_lex_number
theorem tr_lex_number : o_lex_number = some af_lex_number := theAF_ok (by kernel_rfl)
noncomputable abbrev o_parse_parser_next := tr [(4,11),(13,21)] false [] 0 Proofs.Tryd.f68
noncomputable def af_parse_parser_next := theAF o_parse_parser_next
theorem tr_parse_parser_next : o_parse_parser_next = some af_parse_parser_next := theAF_ok (by kernel_rfl)
noncomputable abbrev o_parse_parser_base := tr [(4,6),(8,13)] false [] 0 Proofs.Tryd.f69
noncomputable def af_parse_parser_base := theAF o_parse_parser_base
theorem tr_parse_parser_base : o_parse_parser_base = some af_parse_parser_base := theAF_ok (by kernel_rfl)
noncomputable abbrev o_parse_parser_block := tr [(4,14),(16,21)] true [] 95 Proofs.Tryd.f70
noncomputable def af_parse_parser_block := theAF o_parse_parser_block
theorem tr_parse_parser_block : o_parse_parser_block = some af_parse_parser_block := theAF_ok (by kernel_rfl)
noncomputable abbrev o_internal_stringslite_HasPrefix := tr [(5,17)] false [] 0 Proofs.Tryd.f81
noncomputable def af_internal_stringslite_HasPrefix := theAF o_internal_stringslite_HasPrefix
theorem tr_internal_stringslite_HasPrefix : o_internal_stringslite_HasPrefix = some af_internal_stringslite_HasPrefix := theAF_ok (by kernel_rfl)
noncomputable abbrev o_internal_stringslite_IndexByte := tr [(5,7)] false [] 0 Proofs.Tryd.f82
noncomputable def af_internal_stringslite_IndexByte := theAF o_internal_stringslite_IndexByte
theorem tr_internal_stringslite_IndexByte : o_internal_stringslite_IndexByte = some af_internal_stringslite_IndexByte := theAF_ok (by kernel_rfl)
noncomputable abbrev o_ast_Int := tr [(1,1)] false [] 0 Proofs.Tryd.f83
noncomputable def af_ast_Int := theAF o_ast_Int
theorem tr_ast_Int : o_ast_Int = some af_ast_Int := theAF_ok (by kernel_rfl)
noncomputable abbrev o_ast_Bool := tr [(1,1)] false [] 0 Proofs.Tryd.f84
noncomputable def af_ast_Bool := theAF o_ast_Bool
theorem tr_ast_Bool : o_ast_Bool = some af_ast_Bool := theAF_ok (by kernel_rfl)
noncomputable abbrev o_ast_Of := tr [(3,4)] false [] 0 Proofs.Tryd.f85
noncomputable def af_ast_Of := theAF o_ast_Of
theorem tr_ast_Of : o_ast_Of = some af_ast_Of := theAF_ok (by kernel_rfl)
noncomputable abbrev o_parse_parser_down := tr [(3,13),(15,17)] false [] 0 Proofs.Tryd.f86
noncomputable def af_parse_parser_down := theAF o_parse_parser_down
theorem tr_parse_parser_down : o_parse_parser_down = some af_parse_parser_down := theAF_ok (by kernel_rfl)
noncomputable abbrev o_parse_parser_stmt := tr [(4,13),(15,30),(32,36),(38,48),(50,56),(58,68)] false [] 0 Proofs.Tryd.f87
noncomputable def af_parse_parser_stmt := theAF o_parse_parser_stmt
theorem tr_parse_parser_stmt : o_parse_parser_stmt = some af_parse_parser_stmt := theAF_ok (by kernel_rfl)
noncomputable abbrev o_parse_parser_down_1 := tr [(1,7)] false [] 0 Proofs.Tryd.f95
noncomputable def af_parse_parser_down_1 := theAF o_parse_parser_down_1
theorem tr_parse_parser_down_1 : o_parse_parser_down_1 = some af_parse_parser_down_1 := theAF_ok (by kernel_rfl)
noncomputable abbrev o_parse_parser_expr := tr [(3,7)] true [] 95 Proofs.Tryd.f96
noncomputable def af_parse_parser_expr := theAF o_parse_parser_expr
theorem tr_parse_parser_expr : o_parse_parser_expr = some af_parse_parser_expr := theAF_ok (by kernel_rfl)
noncomputable abbrev o_parse_parser_choice := tr [(4,24),(26,27),(29,36)] true [] 95 Proofs.Tryd.f97
noncomputable def af_parse_parser_choice := theAF o_parse_parser_choice
theorem tr_parse_parser_choice : o_parse_parser_choice = some af_parse_parser_choice := theAF_ok (by kernel_rfl)
noncomputable abbrev o_parse_parser_plain := tr [(5,6),(15,17),(19,25),(27,40),(42,46)] false [(1,opl 10),(8,opl 16)] 0 Proofs.Tryd.f98
noncomputable def af_parse_parser_plain := theAF o_parse_parser_plain
theorem tr_parse_parser_plain : o_parse_parser_plain = some af_parse_parser_plain := theAF_ok (by kernel_rfl)
noncomputable abbrev o_parse_parser_either := tr [(11,15),(17,19),(27,27)] false [(4,opl 8)] 0 Proofs.Tryd.f103
noncomputable def af_parse_parser_either := theAF o_parse_parser_either
theorem tr_parse_parser_either : o_parse_parser_either = some af_parse_parser_either := theAF_ok (by kernel_rfl)
noncomputable abbrev o_parse_parser_expr_1 := tr [(2,5)] false [] 0 Proofs.Tryd.f104
noncomputable def af_parse_parser_expr_1 := theAF o_parse_parser_expr_1
theorem tr_parse_parser_expr_1 : o_parse_parser_expr_1 = some af_parse_parser_expr_1 := theAF_ok (by kernel_rfl)
noncomputable abbrev o_parse_parser_compared := tr [(6,10),(12,13),(23,23)] false [(5,opl 10)] 0 Proofs.Tryd.f105
noncomputable def af_parse_parser_compared := theAF o_parse_parser_compared
theorem tr_parse_parser_compared : o_parse_parser_compared = some af_parse_parser_compared := theAF_ok (by kernel_rfl)
noncomputable abbrev o_parse_parser_compared_1 := tr [(2,5)] false [] 0 Proofs.Tryd.f106
noncomputable def af_parse_parser_compared_1 := theAF o_parse_parser_compared_1
theorem tr_parse_parser_compared_1 : o_parse_parser_compared_1 = some af_parse_parser_compared_1 := theAF_ok (by kernel_rfl)
noncomputable abbrev o_parse_parser_signs := tr [(9,12),(14,15),(25,25)] false [(4,opl 10)] 0 Proofs.Tryd.f107
noncomputable def af_parse_parser_signs := theAF o_parse_parser_signs
theorem tr_parse_parser_signs : o_parse_parser_signs = some af_parse_parser_signs := theAF_ok (by kernel_rfl)
noncomputable abbrev o_parse_parser_compared_1_1 := tr [(2,6)] false [] 0 Proofs.Tryd.f108
noncomputable def af_parse_parser_compared_1_1 := theAF o_parse_parser_compared_1_1
theorem tr_parse_parser_compared_1_1 : o_parse_parser_compared_1_1 = some af_parse_parser_compared_1_1 := theAF_ok (by kernel_rfl)
noncomputable abbrev o_parse_parser_unary := tr [(9,15),(20,25),(27,30),(42,46),(48,51),(62,62)] true [(8,opl 15),(16,opp [0,1,2,3,6,7,4,5,8,9])] 95 Proofs.Tryd.f109
noncomputable def af_parse_parser_unary := theAF o_parse_parser_unary
theorem tr_parse_parser_unary : o_parse_parser_unary = some af_parse_parser_unary := theAF_ok (by kernel_rfl)
noncomputable abbrev o_parse_parser_parts := tr [(5,14),(16,17),(24,26),(28,33)] false [(5,opl 7)] 0 Proofs.Tryd.f110
noncomputable def af_parse_parser_parts := theAF o_parse_parser_parts
theorem tr_parse_parser_parts : o_parse_parser_parts = some af_parse_parser_parts := theAF_ok (by kernel_rfl)
noncomputable abbrev o_parse_parser_prim := tr [(5,15),(17,20),(22,26),(32,36),(42,59),(61,63),(65,67),(69,71),(73,75),(77,83),(85,95),(97,98),(100,107)] false [(8,opl 6),(11,opl 6)] 0 Proofs.Tryd.f111
noncomputable def af_parse_parser_prim := theAF o_parse_parser_prim
theorem tr_parse_parser_prim : o_parse_parser_prim = some af_parse_parser_prim := theAF_ok (by kernel_rfl)
noncomputable abbrev o_parse_parser_member := tr [(8,8),(10,18),(20,24)] false [(6,opl 9)] 0 Proofs.Tryd.f112
noncomputable def af_parse_parser_member := theAF o_parse_parser_member
theorem tr_parse_parser_member : o_parse_parser_member = some af_parse_parser_member := theAF_ok (by kernel_rfl)
noncomputable abbrev o_parse_parser_args := tr [(4,12),(14,15),(17,29)] false [] 0 Proofs.Tryd.f113
noncomputable def af_parse_parser_args := theAF o_parse_parser_args
theorem tr_parse_parser_args : o_parse_parser_args = some af_parse_parser_args := theAF_ok (by kernel_rfl)
noncomputable abbrev o_ast_Type_Class := tr [(3,22)] false [] 0 Proofs.Tryd.f114
noncomputable def af_ast_Type_Class := theAF o_ast_Type_Class
theorem tr_ast_Type_Class : o_ast_Type_Class = some af_ast_Type_Class := theAF_ok (by kernel_rfl)
noncomputable def F : T AF := (.n none (.n none (.n none (.n none (.n none (.n none (.n (some af_lex_inner) .e .e) (.n (some af_parse_parser_down_1) .e .e)) (.n (some af_parse_parser_fail) .e (.n (some af_parse_parser_prim) .e .e))) (.n none (.n (some af_lex_lexer_next) .e (.n (some af_parse_parser_either) .e .e)) (.n none (.n (some af_parse_parser_stmt) .e .e) .e))) (.n (some af_kilnlaw06_ParseNests_1) (.n (some af_kilnlaw06_ret) (.n none (.n (some af_lex_number) .e .e) .e) (.n none (.n (some af_ast_Int) .e .e) .e)) (.n none (.n (some af_parse_parser_typ) .e (.n (some af_parse_parser_signs) .e .e)) (.n (some af_strings_HasPrefix) .e .e)))) (.n none (.n (some af_kilnlaw06_head) (.n none (.n none (.n (some af_lex_words) .e .e) (.n (some af_parse_parser_choice) .e .e)) (.n none (.n (some af_internal_stringslite_HasPrefix) .e .e) (.n (some af_parse_parser_args) .e .e))) (.n (some af_parse_parser_class) (.n (some af_parse_parser_name) .e (.n (some af_parse_parser_compared) .e .e)) .e)) (.n none (.n none (.n none (.n (some af_parse_parser_base) .e .e) .e) (.n none (.n (some af_ast_Of) .e .e) .e)) (.n none (.n (some af_parse_parser_is) .e (.n (some af_parse_parser_unary) .e .e)) (.n (some af_lex_great) .e .e))))) (.n none (.n (some af_kilnlaw06_ParseNests) (.n none (.n none (.n none (.n (some af_lex_small) .e .e) (.n (some af_parse_parser_expr) .e .e)) (.n none .e (.n (some af_parse_parser_member) .e .e))) (.n (some af_lex_All) (.n (some af_parse_parser_want) .e (.n (some af_parse_parser_expr_1) .e .e)) .e)) (.n (some af_kilnlaw06_ParseNests_2) (.n none (.n none (.n (some af_parse_parser_next) .e .e) .e) (.n none (.n (some af_ast_Bool) .e .e) .e)) (.n none (.n (some af_parse_parser_many) .e (.n (some af_parse_parser_compared_1_1) .e .e)) (.n (some af_strings_IndexByte) .e .e)))) (.n none (.n (some af_parse_Class) (.n none (.n none (.n (some af_lex_digit) .e .e) (.n (some af_parse_parser_plain) .e .e)) (.n none (.n (some af_internal_stringslite_IndexByte) .e .e) (.n (some af_ast_Type_Class) .e .e))) (.n (some af_parse_parser_ok) (.n (some af_parse_parser_take) .e (.n (some af_parse_parser_compared_1) .e .e)) (.n (some af_lex_lexer_step) .e .e))) (.n none (.n none (.n (some af_lex_lexer_skip) (.n (some af_parse_parser_block) .e .e) .e) (.n none (.n (some af_parse_parser_down) .e .e) .e)) (.n none (.n (some af_parse_parser_method) .e (.n (some af_parse_parser_parts) .e .e)) (.n (some af_lex_lexer_run) .e .e))))))
theorem at_kilnlaw06_ParseNests : T.get F 4 = some af_kilnlaw06_ParseNests := by kernel_rfl
theorem at_kilnlaw06_head : T.get F 9 = some af_kilnlaw06_head := by kernel_rfl
theorem at_parse_Class : T.get F 10 = some af_parse_Class := by kernel_rfl
theorem at_kilnlaw06_ParseNests_1 : T.get F 11 = some af_kilnlaw06_ParseNests_1 := by kernel_rfl
theorem at_kilnlaw06_ParseNests_2 : T.get F 12 = some af_kilnlaw06_ParseNests_2 := by kernel_rfl
theorem at_kilnlaw06_ret : T.get F 19 = some af_kilnlaw06_ret := by kernel_rfl
theorem at_lex_All : T.get F 24 = some af_lex_All := by kernel_rfl
theorem at_parse_parser_class : T.get F 25 = some af_parse_parser_class := by kernel_rfl
theorem at_parse_parser_ok : T.get F 26 = some af_parse_parser_ok := by kernel_rfl
theorem at_lex_lexer_skip : T.get F 38 = some af_lex_lexer_skip := by kernel_rfl
theorem at_lex_lexer_next : T.get F 39 = some af_lex_lexer_next := by kernel_rfl
theorem at_parse_parser_want : T.get F 40 = some af_parse_parser_want := by kernel_rfl
theorem at_parse_parser_name : T.get F 41 = some af_parse_parser_name := by kernel_rfl
theorem at_parse_parser_take : T.get F 42 = some af_parse_parser_take := by kernel_rfl
theorem at_parse_parser_typ : T.get F 43 = some af_parse_parser_typ := by kernel_rfl
theorem at_parse_parser_many : T.get F 44 = some af_parse_parser_many := by kernel_rfl
theorem at_parse_parser_is : T.get F 45 = some af_parse_parser_is := by kernel_rfl
theorem at_parse_parser_method : T.get F 46 = some af_parse_parser_method := by kernel_rfl
theorem at_parse_parser_fail : T.get F 47 = some af_parse_parser_fail := by kernel_rfl
theorem at_lex_lexer_step : T.get F 58 = some af_lex_lexer_step := by kernel_rfl
theorem at_strings_HasPrefix : T.get F 59 = some af_strings_HasPrefix := by kernel_rfl
theorem at_strings_IndexByte : T.get F 60 = some af_strings_IndexByte := by kernel_rfl
theorem at_lex_great : T.get F 61 = some af_lex_great := by kernel_rfl
theorem at_lex_lexer_run : T.get F 62 = some af_lex_lexer_run := by kernel_rfl
theorem at_lex_inner : T.get F 63 = some af_lex_inner := by kernel_rfl
theorem at_lex_small : T.get F 64 = some af_lex_small := by kernel_rfl
theorem at_lex_words : T.get F 65 = some af_lex_words := by kernel_rfl
theorem at_lex_digit : T.get F 66 = some af_lex_digit := by kernel_rfl
theorem at_lex_number : T.get F 67 = some af_lex_number := by kernel_rfl
theorem at_parse_parser_next : T.get F 68 = some af_parse_parser_next := by kernel_rfl
theorem at_parse_parser_base : T.get F 69 = some af_parse_parser_base := by kernel_rfl
theorem at_parse_parser_block : T.get F 70 = some af_parse_parser_block := by kernel_rfl
theorem at_internal_stringslite_HasPrefix : T.get F 81 = some af_internal_stringslite_HasPrefix := by kernel_rfl
theorem at_internal_stringslite_IndexByte : T.get F 82 = some af_internal_stringslite_IndexByte := by kernel_rfl
theorem at_ast_Int : T.get F 83 = some af_ast_Int := by kernel_rfl
theorem at_ast_Bool : T.get F 84 = some af_ast_Bool := by kernel_rfl
theorem at_ast_Of : T.get F 85 = some af_ast_Of := by kernel_rfl
theorem at_parse_parser_down : T.get F 86 = some af_parse_parser_down := by kernel_rfl
theorem at_parse_parser_stmt : T.get F 87 = some af_parse_parser_stmt := by kernel_rfl
theorem at_parse_parser_down_1 : T.get F 95 = some af_parse_parser_down_1 := by kernel_rfl
theorem at_parse_parser_expr : T.get F 96 = some af_parse_parser_expr := by kernel_rfl
theorem at_parse_parser_choice : T.get F 97 = some af_parse_parser_choice := by kernel_rfl
theorem at_parse_parser_plain : T.get F 98 = some af_parse_parser_plain := by kernel_rfl
theorem at_parse_parser_either : T.get F 103 = some af_parse_parser_either := by kernel_rfl
theorem at_parse_parser_expr_1 : T.get F 104 = some af_parse_parser_expr_1 := by kernel_rfl
theorem at_parse_parser_compared : T.get F 105 = some af_parse_parser_compared := by kernel_rfl
theorem at_parse_parser_compared_1 : T.get F 106 = some af_parse_parser_compared_1 := by kernel_rfl
theorem at_parse_parser_signs : T.get F 107 = some af_parse_parser_signs := by kernel_rfl
theorem at_parse_parser_compared_1_1 : T.get F 108 = some af_parse_parser_compared_1_1 := by kernel_rfl
theorem at_parse_parser_unary : T.get F 109 = some af_parse_parser_unary := by kernel_rfl
theorem at_parse_parser_parts : T.get F 110 = some af_parse_parser_parts := by kernel_rfl
theorem at_parse_parser_prim : T.get F 111 = some af_parse_parser_prim := by kernel_rfl
theorem at_parse_parser_member : T.get F 112 = some af_parse_parser_member := by kernel_rfl
theorem at_parse_parser_args : T.get F 113 = some af_parse_parser_args := by kernel_rfl
theorem at_ast_Type_Class : T.get F 114 = some af_ast_Type_Class := by kernel_rfl
end Go.PQ

/- All functions are right. -/
namespace Go.PQ
open Go.Eng
set_option maxRecDepth 100000
abbrev Fg (n : Nat) (a : AF) : Prop := FnGood Go.Proofs.Tryd.prog F n a
theorem good_kilnlaw06_ParseNests : Fg 4 af_kilnlaw06_ParseNests := .one Proofs.Tryd.func4 (by kernel_rfl) tr_kilnlaw06_ParseNests (by kernel_rfl) (by kernel_rfl)
theorem good_kilnlaw06_head : Fg 9 af_kilnlaw06_head := .one Proofs.Tryd.func9 (by kernel_rfl) tr_kilnlaw06_head (by kernel_rfl) (by kernel_rfl)
theorem good_parse_Class : Fg 10 af_parse_Class := .one Proofs.Tryd.func10 (by kernel_rfl) tr_parse_Class (by kernel_rfl) (by kernel_rfl)
theorem good_kilnlaw06_ParseNests_1 : Fg 11 af_kilnlaw06_ParseNests_1 := .one Proofs.Tryd.func11 (by kernel_rfl) tr_kilnlaw06_ParseNests_1 (by kernel_rfl) (by kernel_rfl)
theorem good_kilnlaw06_ParseNests_2 : Fg 12 af_kilnlaw06_ParseNests_2 := .one Proofs.Tryd.func12 (by kernel_rfl) tr_kilnlaw06_ParseNests_2 (by kernel_rfl) (by kernel_rfl)
theorem good_kilnlaw06_ret : Fg 19 af_kilnlaw06_ret := .one Proofs.Tryd.func19 (by kernel_rfl) tr_kilnlaw06_ret (by kernel_rfl) (by kernel_rfl)
theorem good_lex_All : Fg 24 af_lex_All := .one Proofs.Tryd.func24 (by kernel_rfl) tr_lex_All (by kernel_rfl) (by kernel_rfl)
theorem good_parse_parser_class : Fg 25 af_parse_parser_class := .one Proofs.Tryd.func25 (by kernel_rfl) tr_parse_parser_class (by kernel_rfl) (by kernel_rfl)
theorem good_parse_parser_ok : Fg 26 af_parse_parser_ok := .one Proofs.Tryd.func26 (by kernel_rfl) tr_parse_parser_ok (by kernel_rfl) (by kernel_rfl)
theorem good_lex_lexer_skip : Fg 38 af_lex_lexer_skip := .one Proofs.Tryd.func38 (by kernel_rfl) tr_lex_lexer_skip (by kernel_rfl) (by kernel_rfl)
theorem good_lex_lexer_next : Fg 39 af_lex_lexer_next := .one Proofs.Tryd.func39 (by kernel_rfl) tr_lex_lexer_next (by kernel_rfl) (by kernel_rfl)
theorem good_parse_parser_want : Fg 40 af_parse_parser_want := .one Proofs.Tryd.func40 (by kernel_rfl) tr_parse_parser_want (by kernel_rfl) (by kernel_rfl)
theorem good_parse_parser_name : Fg 41 af_parse_parser_name := .one Proofs.Tryd.func41 (by kernel_rfl) tr_parse_parser_name (by kernel_rfl) (by kernel_rfl)
theorem good_parse_parser_take : Fg 42 af_parse_parser_take := .one Proofs.Tryd.func42 (by kernel_rfl) tr_parse_parser_take (by kernel_rfl) (by kernel_rfl)
theorem good_parse_parser_typ : Fg 43 af_parse_parser_typ := .one Proofs.Tryd.func43 (by kernel_rfl) tr_parse_parser_typ (by kernel_rfl) (by kernel_rfl)
theorem good_parse_parser_many : Fg 44 af_parse_parser_many := .one Proofs.Tryd.func44 (by kernel_rfl) tr_parse_parser_many (by kernel_rfl) (by kernel_rfl)
theorem good_parse_parser_is : Fg 45 af_parse_parser_is := .one Proofs.Tryd.func45 (by kernel_rfl) tr_parse_parser_is (by kernel_rfl) (by kernel_rfl)
theorem good_parse_parser_method : Fg 46 af_parse_parser_method := .one Proofs.Tryd.func46 (by kernel_rfl) tr_parse_parser_method (by kernel_rfl) (by kernel_rfl)
theorem good_parse_parser_fail : Fg 47 af_parse_parser_fail := .one Proofs.Tryd.func47 (by kernel_rfl) tr_parse_parser_fail (by kernel_rfl) (by kernel_rfl)
theorem good_lex_lexer_step : Fg 58 af_lex_lexer_step := .one Proofs.Tryd.func58 (by kernel_rfl) tr_lex_lexer_step (by kernel_rfl) (by kernel_rfl)
theorem good_strings_HasPrefix : Fg 59 af_strings_HasPrefix := .one Proofs.Tryd.func59 (by kernel_rfl) tr_strings_HasPrefix (by kernel_rfl) (by kernel_rfl)
theorem good_strings_IndexByte : Fg 60 af_strings_IndexByte := .one Proofs.Tryd.func60 (by kernel_rfl) tr_strings_IndexByte (by kernel_rfl) (by kernel_rfl)
theorem good_lex_great : Fg 61 af_lex_great := .one Proofs.Tryd.func61 (by kernel_rfl) tr_lex_great (by kernel_rfl) (by kernel_rfl)
theorem good_lex_lexer_run : Fg 62 af_lex_lexer_run := .one Proofs.Tryd.func62 (by kernel_rfl) tr_lex_lexer_run (by kernel_rfl) (by kernel_rfl)
theorem good_lex_inner : Fg 63 af_lex_inner := .one Proofs.Tryd.func63 (by kernel_rfl) tr_lex_inner (by kernel_rfl) (by kernel_rfl)
theorem good_lex_small : Fg 64 af_lex_small := .one Proofs.Tryd.func64 (by kernel_rfl) tr_lex_small (by kernel_rfl) (by kernel_rfl)
theorem good_lex_words : Fg 65 af_lex_words := .one Proofs.Tryd.func65 (by kernel_rfl) tr_lex_words (by kernel_rfl) (by kernel_rfl)
theorem good_lex_digit : Fg 66 af_lex_digit := .one Proofs.Tryd.func66 (by kernel_rfl) tr_lex_digit (by kernel_rfl) (by kernel_rfl)
theorem good_lex_number : Fg 67 af_lex_number := .one Proofs.Tryd.func67 (by kernel_rfl) tr_lex_number (by kernel_rfl) (by kernel_rfl)
theorem good_parse_parser_next : Fg 68 af_parse_parser_next := .one Proofs.Tryd.func68 (by kernel_rfl) tr_parse_parser_next (by kernel_rfl) (by kernel_rfl)
theorem good_parse_parser_base : Fg 69 af_parse_parser_base := .one Proofs.Tryd.func69 (by kernel_rfl) tr_parse_parser_base (by kernel_rfl) (by kernel_rfl)
theorem good_parse_parser_block : Fg 70 af_parse_parser_block := .two Proofs.Tryd.func70 (by kernel_rfl) tr_parse_parser_block (by kernel_rfl) at_parse_parser_down_1 (by kernel_rfl)
theorem good_internal_stringslite_HasPrefix : Fg 81 af_internal_stringslite_HasPrefix := .one Proofs.Tryd.func81 (by kernel_rfl) tr_internal_stringslite_HasPrefix (by kernel_rfl) (by kernel_rfl)
theorem good_internal_stringslite_IndexByte : Fg 82 af_internal_stringslite_IndexByte := .one Proofs.Tryd.func82 (by kernel_rfl) tr_internal_stringslite_IndexByte (by kernel_rfl) (by kernel_rfl)
theorem good_ast_Int : Fg 83 af_ast_Int := .one Proofs.Tryd.func83 (by kernel_rfl) tr_ast_Int (by kernel_rfl) (by kernel_rfl)
theorem good_ast_Bool : Fg 84 af_ast_Bool := .one Proofs.Tryd.func84 (by kernel_rfl) tr_ast_Bool (by kernel_rfl) (by kernel_rfl)
theorem good_ast_Of : Fg 85 af_ast_Of := .one Proofs.Tryd.func85 (by kernel_rfl) tr_ast_Of (by kernel_rfl) (by kernel_rfl)
theorem good_parse_parser_down : Fg 86 af_parse_parser_down := .one Proofs.Tryd.func86 (by kernel_rfl) tr_parse_parser_down (by kernel_rfl) (by kernel_rfl)
theorem good_parse_parser_stmt : Fg 87 af_parse_parser_stmt := .one Proofs.Tryd.func87 (by kernel_rfl) tr_parse_parser_stmt (by kernel_rfl) (by kernel_rfl)
theorem good_parse_parser_down_1 : Fg 95 af_parse_parser_down_1 := .one Proofs.Tryd.func95 (by kernel_rfl) tr_parse_parser_down_1 (by kernel_rfl) (by kernel_rfl)
theorem good_parse_parser_expr : Fg 96 af_parse_parser_expr := .two Proofs.Tryd.func96 (by kernel_rfl) tr_parse_parser_expr (by kernel_rfl) at_parse_parser_down_1 (by kernel_rfl)
theorem good_parse_parser_choice : Fg 97 af_parse_parser_choice := .two Proofs.Tryd.func97 (by kernel_rfl) tr_parse_parser_choice (by kernel_rfl) at_parse_parser_down_1 (by kernel_rfl)
theorem good_parse_parser_plain : Fg 98 af_parse_parser_plain := .one Proofs.Tryd.func98 (by kernel_rfl) tr_parse_parser_plain (by kernel_rfl) (by kernel_rfl)
theorem good_parse_parser_either : Fg 103 af_parse_parser_either := .one Proofs.Tryd.func103 (by kernel_rfl) tr_parse_parser_either (by kernel_rfl) (by kernel_rfl)
theorem good_parse_parser_expr_1 : Fg 104 af_parse_parser_expr_1 := .one Proofs.Tryd.func104 (by kernel_rfl) tr_parse_parser_expr_1 (by kernel_rfl) (by kernel_rfl)
theorem good_parse_parser_compared : Fg 105 af_parse_parser_compared := .one Proofs.Tryd.func105 (by kernel_rfl) tr_parse_parser_compared (by kernel_rfl) (by kernel_rfl)
theorem good_parse_parser_compared_1 : Fg 106 af_parse_parser_compared_1 := .one Proofs.Tryd.func106 (by kernel_rfl) tr_parse_parser_compared_1 (by kernel_rfl) (by kernel_rfl)
theorem good_parse_parser_signs : Fg 107 af_parse_parser_signs := .one Proofs.Tryd.func107 (by kernel_rfl) tr_parse_parser_signs (by kernel_rfl) (by kernel_rfl)
theorem good_parse_parser_compared_1_1 : Fg 108 af_parse_parser_compared_1_1 := .one Proofs.Tryd.func108 (by kernel_rfl) tr_parse_parser_compared_1_1 (by kernel_rfl) (by kernel_rfl)
theorem good_parse_parser_unary : Fg 109 af_parse_parser_unary := .two Proofs.Tryd.func109 (by kernel_rfl) tr_parse_parser_unary (by kernel_rfl) at_parse_parser_down_1 (by kernel_rfl)
theorem good_parse_parser_parts : Fg 110 af_parse_parser_parts := .one Proofs.Tryd.func110 (by kernel_rfl) tr_parse_parser_parts (by kernel_rfl) (by kernel_rfl)
theorem good_parse_parser_prim : Fg 111 af_parse_parser_prim := .one Proofs.Tryd.func111 (by kernel_rfl) tr_parse_parser_prim (by kernel_rfl) (by kernel_rfl)
theorem good_parse_parser_member : Fg 112 af_parse_parser_member := .one Proofs.Tryd.func112 (by kernel_rfl) tr_parse_parser_member (by kernel_rfl) (by kernel_rfl)
theorem good_parse_parser_args : Fg 113 af_parse_parser_args := .one Proofs.Tryd.func113 (by kernel_rfl) tr_parse_parser_args (by kernel_rfl) (by kernel_rfl)
theorem good_ast_Type_Class : Fg 114 af_ast_Type_Class := .one Proofs.Tryd.func114 (by kernel_rfl) tr_ast_Type_Class (by kernel_rfl) (by kernel_rfl)
theorem all_good : T.All (fun p af => FnGood Go.Proofs.Tryd.prog F p.key af) F := (.n0 (.n0 (.n0 (.n0 (.n0 (.n0 (.n1 good_lex_inner .e .e) (.n1 good_parse_parser_down_1 .e .e)) (.n1 good_parse_parser_fail .e (.n1 good_parse_parser_prim .e .e))) (.n0 (.n1 good_lex_lexer_next .e (.n1 good_parse_parser_either .e .e)) (.n0 (.n1 good_parse_parser_stmt .e .e) .e))) (.n1 good_kilnlaw06_ParseNests_1 (.n1 good_kilnlaw06_ret (.n0 (.n1 good_lex_number .e .e) .e) (.n0 (.n1 good_ast_Int .e .e) .e)) (.n0 (.n1 good_parse_parser_typ .e (.n1 good_parse_parser_signs .e .e)) (.n1 good_strings_HasPrefix .e .e)))) (.n0 (.n1 good_kilnlaw06_head (.n0 (.n0 (.n1 good_lex_words .e .e) (.n1 good_parse_parser_choice .e .e)) (.n0 (.n1 good_internal_stringslite_HasPrefix .e .e) (.n1 good_parse_parser_args .e .e))) (.n1 good_parse_parser_class (.n1 good_parse_parser_name .e (.n1 good_parse_parser_compared .e .e)) .e)) (.n0 (.n0 (.n0 (.n1 good_parse_parser_base .e .e) .e) (.n0 (.n1 good_ast_Of .e .e) .e)) (.n0 (.n1 good_parse_parser_is .e (.n1 good_parse_parser_unary .e .e)) (.n1 good_lex_great .e .e))))) (.n0 (.n1 good_kilnlaw06_ParseNests (.n0 (.n0 (.n0 (.n1 good_lex_small .e .e) (.n1 good_parse_parser_expr .e .e)) (.n0 .e (.n1 good_parse_parser_member .e .e))) (.n1 good_lex_All (.n1 good_parse_parser_want .e (.n1 good_parse_parser_expr_1 .e .e)) .e)) (.n1 good_kilnlaw06_ParseNests_2 (.n0 (.n0 (.n1 good_parse_parser_next .e .e) .e) (.n0 (.n1 good_ast_Bool .e .e) .e)) (.n0 (.n1 good_parse_parser_many .e (.n1 good_parse_parser_compared_1_1 .e .e)) (.n1 good_strings_IndexByte .e .e)))) (.n0 (.n1 good_parse_Class (.n0 (.n0 (.n1 good_lex_digit .e .e) (.n1 good_parse_parser_plain .e .e)) (.n0 (.n1 good_internal_stringslite_IndexByte .e .e) (.n1 good_ast_Type_Class .e .e))) (.n1 good_parse_parser_ok (.n1 good_parse_parser_take .e (.n1 good_parse_parser_compared_1 .e .e)) (.n1 good_lex_lexer_step .e .e))) (.n0 (.n0 (.n1 good_lex_lexer_skip (.n1 good_parse_parser_block .e .e) .e) (.n0 (.n1 good_parse_parser_down .e .e) .e)) (.n0 (.n1 good_parse_parser_method .e (.n1 good_parse_parser_parts .e .e)) (.n1 good_lex_lexer_run .e .e))))))
theorem fns_ok : FnsOk Go.Proofs.Tryd.prog F := .of_all (by kernel_rfl) all_good
end Go.PQ

