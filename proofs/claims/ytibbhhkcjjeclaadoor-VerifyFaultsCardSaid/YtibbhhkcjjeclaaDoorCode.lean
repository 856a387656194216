/- Part of a proof: texts W1Code of the engine and what is proved with it; nothing is assumed. -/
import Derived.Test.YtibbhhkcjjeclaaDoorEngE
set_option linter.unusedVariables false
set_option linter.unusedSimpArgs false
/- The functions, as abstract code: printed by program. -/
namespace Go.A1
open Go.Eng
set_option maxRecDepth 100000
def q0 : P2 := .h
def r0 : X := .r q0
def q1 : P2 := .z q0
def r1 : X := .r q1
def q2 : P2 := .o q0
def r2 : X := .r q2
def q3 : P2 := .z q1
def r3 : X := .r q3
def q4 : P2 := .o q1
def r4 : X := .r q4
def q5 : P2 := .z q2
def r5 : X := .r q5
def q6 : P2 := .o q2
def r6 : X := .r q6
def q7 : P2 := .z q3
def r7 : X := .r q7
def q8 : P2 := .o q3
def r8 : X := .r q8
def q9 : P2 := .z q4
def r9 : X := .r q9
def q10 : P2 := .o q4
def r10 : X := .r q10
def q11 : P2 := .z q5
def r11 : X := .r q11
def q12 : P2 := .o q5
def r12 : X := .r q12
def q13 : P2 := .z q6
def r13 : X := .r q13
def q14 : P2 := .o q6
def r14 : X := .r q14
def q15 : P2 := .z q7
def r15 : X := .r q15
def q16 : P2 := .o q7
def r16 : X := .r q16
def q17 : P2 := .z q8
def r17 : X := .r q17
def q18 : P2 := .o q8
def r18 : X := .r q18
def q19 : P2 := .z q9
def r19 : X := .r q19
def q20 : P2 := .o q9
def r20 : X := .r q20
def q21 : P2 := .z q10
def r21 : X := .r q21
def q22 : P2 := .o q10
def r22 : X := .r q22
def q23 : P2 := .z q11
def r23 : X := .r q23
def q24 : P2 := .o q11
def r24 : X := .r q24
def q25 : P2 := .z q12
def r25 : X := .r q25
def q26 : P2 := .o q12
def r26 : X := .r q26
def q27 : P2 := .z q13
def r27 : X := .r q27
def q28 : P2 := .o q13
def r28 : X := .r q28
def q29 : P2 := .z q14
def r29 : X := .r q29
def q30 : P2 := .o q14
def r30 : X := .r q30
def q31 : P2 := .z q15
def r31 : X := .r q31
def q32 : P2 := .o q15
def r32 : X := .r q32
def q33 : P2 := .z q16
def r33 : X := .r q33
def q34 : P2 := .o q16
def r34 : X := .r q34
def q35 : P2 := .z q17
def r35 : X := .r q35
def q36 : P2 := .o q17
def r36 : X := .r q36
def q37 : P2 := .z q18
def r37 : X := .r q37
def q38 : P2 := .o q18
def r38 : X := .r q38
def q39 : P2 := .z q19
def r39 : X := .r q39
def q40 : P2 := .o q19
def r40 : X := .r q40
def q41 : P2 := .z q20
def r41 : X := .r q41
def q42 : P2 := .o q20
def r42 : X := .r q42
def q43 : P2 := .z q21
def r43 : X := .r q43
def q44 : P2 := .o q21
def r44 : X := .r q44
def q45 : P2 := .z q22
def r45 : X := .r q45
def q46 : P2 := .o q22
def r46 : X := .r q46
def q47 : P2 := .z q23
def r47 : X := .r q47
def q48 : P2 := .o q23
def r48 : X := .r q48
def q49 : P2 := .z q24
def r49 : X := .r q49
def q50 : P2 := .o q24
def r50 : X := .r q50
def q51 : P2 := .z q25
def r51 : X := .r q51
def q52 : P2 := .o q25
def r52 : X := .r q52
def q53 : P2 := .z q26
def r53 : X := .r q53
def q54 : P2 := .o q26
def r54 : X := .r q54
def q55 : P2 := .z q27
def r55 : X := .r q55
def q56 : P2 := .o q27
def r56 : X := .r q56
def q57 : P2 := .z q28
def r57 : X := .r q57
def q58 : P2 := .o q28
def r58 : X := .r q58
def q59 : P2 := .z q29
def r59 : X := .r q59
def q60 : P2 := .o q29
def r60 : X := .r q60
def q61 : P2 := .z q30
def r61 : X := .r q61
def q62 : P2 := .o q30
def r62 : X := .r q62
def q63 : P2 := .z q31
def r63 : X := .r q63
def q64 : P2 := .o q31
def r64 : X := .r q64
def q65 : P2 := .z q32
def r65 : X := .r q65
def q66 : P2 := .o q32
def r66 : X := .r q66
def q67 : P2 := .z q33
def r67 : X := .r q67
def q68 : P2 := .o q33
def r68 : X := .r q68
def q69 : P2 := .z q34
def r69 : X := .r q69
def q70 : P2 := .o q34
def r70 : X := .r q70
def q71 : P2 := .z q35
def r71 : X := .r q71
def q72 : P2 := .o q35
def r72 : X := .r q72
def q73 : P2 := .z q36
def r73 : X := .r q73
def q74 : P2 := .o q36
def r74 : X := .r q74
def q75 : P2 := .z q37
def r75 : X := .r q75
def q76 : P2 := .o q37
def r76 : X := .r q76
def q77 : P2 := .z q38
def r77 : X := .r q77
def q78 : P2 := .o q38
def r78 : X := .r q78
def q79 : P2 := .z q39
def r79 : X := .r q79
def q80 : P2 := .o q39
def r80 : X := .r q80
def q81 : P2 := .z q40
def r81 : X := .r q81
def q82 : P2 := .o q40
def r82 : X := .r q82
def q83 : P2 := .z q41
def r83 : X := .r q83
def q84 : P2 := .o q41
def r84 : X := .r q84
def q85 : P2 := .z q42
def r85 : X := .r q85
def q86 : P2 := .o q42
def r86 : X := .r q86
def q87 : P2 := .z q43
def r87 : X := .r q87
def q88 : P2 := .o q43
def r88 : X := .r q88
def q89 : P2 := .z q44
def r89 : X := .r q89
def q90 : P2 := .o q44
def r90 : X := .r q90
def q91 : P2 := .z q45
def r91 : X := .r q91
def q92 : P2 := .o q45
def r92 : X := .r q92
def q93 : P2 := .z q46
def r93 : X := .r q93
def q94 : P2 := .o q46
def r94 : X := .r q94
def q95 : P2 := .z q47
def r95 : X := .r q95
def q96 : P2 := .o q47
def r96 : X := .r q96
def q97 : P2 := .z q48
def r97 : X := .r q97
def q98 : P2 := .o q48
def r98 : X := .r q98
def q99 : P2 := .z q49
def r99 : X := .r q99
def q100 : P2 := .o q49
def r100 : X := .r q100
def q101 : P2 := .z q50
def r101 : X := .r q101
def q102 : P2 := .o q50
def r102 : X := .r q102
def q103 : P2 := .z q51
def r103 : X := .r q103
def q104 : P2 := .o q51
def r104 : X := .r q104
def q105 : P2 := .z q52
def r105 : X := .r q105
def q106 : P2 := .o q52
def r106 : X := .r q106
def q107 : P2 := .z q53
def r107 : X := .r q107
def q108 : P2 := .o q53
def r108 : X := .r q108
def q109 : P2 := .z q54
def r109 : X := .r q109
def q110 : P2 := .o q54
def r110 : X := .r q110
def q111 : P2 := .z q55
def r111 : X := .r q111
def q112 : P2 := .o q55
def r112 : X := .r q112
def q113 : P2 := .z q56
def r113 : X := .r q113
def q114 : P2 := .o q56
def r114 : X := .r q114
def q115 : P2 := .z q57
def r115 : X := .r q115
def q116 : P2 := .o q57
def r116 : X := .r q116
def q117 : P2 := .z q58
def r117 : X := .r q117
def q118 : P2 := .o q58
def r118 : X := .r q118
def q119 : P2 := .z q59
def r119 : X := .r q119
def q120 : P2 := .o q59
def r120 : X := .r q120
def q121 : P2 := .z q60
def r121 : X := .r q121
def q122 : P2 := .o q60
def r122 : X := .r q122
def q123 : P2 := .z q61
def r123 : X := .r q123
def q124 : P2 := .o q61
def r124 : X := .r q124
def q125 : P2 := .z q62
def r125 : X := .r q125
def q126 : P2 := .o q62
def r126 : X := .r q126
def q127 : P2 := .z q63
def r127 : X := .r q127
def q128 : P2 := .o q63
def r128 : X := .r q128
def q129 : P2 := .z q64
def r129 : X := .r q129
def q130 : P2 := .o q64
def r130 : X := .r q130
def q131 : P2 := .z q65
def r131 : X := .r q131
def q132 : P2 := .o q65
def r132 : X := .r q132
def q133 : P2 := .z q66
def r133 : X := .r q133
def q134 : P2 := .o q66
def r134 : X := .r q134
def q135 : P2 := .z q67
def r135 : X := .r q135
def q136 : P2 := .o q67
def r136 : X := .r q136
def q137 : P2 := .z q68
def r137 : X := .r q137
def q138 : P2 := .o q68
def r138 : X := .r q138
def q139 : P2 := .z q69
def r139 : X := .r q139
def q140 : P2 := .o q69
def r140 : X := .r q140
def q141 : P2 := .z q70
def r141 : X := .r q141
def q142 : P2 := .o q70
def r142 : X := .r q142
def q143 : P2 := .z q71
def r143 : X := .r q143
def q144 : P2 := .o q71
def r144 : X := .r q144
def q145 : P2 := .z q72
def r145 : X := .r q145
def q146 : P2 := .o q72
def r146 : X := .r q146
def q147 : P2 := .z q73
def r147 : X := .r q147
def q148 : P2 := .o q73
def r148 : X := .r q148
def q149 : P2 := .z q74
def r149 : X := .r q149
def q150 : P2 := .o q74
def r150 : X := .r q150
def q151 : P2 := .z q75
def r151 : X := .r q151
def q152 : P2 := .o q75
def r152 : X := .r q152
def q153 : P2 := .z q76
def r153 : X := .r q153
def q154 : P2 := .o q76
def r154 : X := .r q154
def q155 : P2 := .z q77
def r155 : X := .r q155
def q156 : P2 := .o q77
def r156 : X := .r q156
def q157 : P2 := .z q78
def r157 : X := .r q157
def q158 : P2 := .o q78
def r158 : X := .r q158
def q159 : P2 := .z q79
def r159 : X := .r q159
def q160 : P2 := .o q79
def r160 : X := .r q160
def q161 : P2 := .z q80
def r161 : X := .r q161
def q162 : P2 := .o q80
def r162 : X := .r q162
def q163 : P2 := .z q81
def r163 : X := .r q163
def q164 : P2 := .o q81
def r164 : X := .r q164
def q165 : P2 := .z q82
def r165 : X := .r q165
def q166 : P2 := .o q82
def r166 : X := .r q166
def q167 : P2 := .z q83
def r167 : X := .r q167
def q168 : P2 := .o q83
def r168 : X := .r q168
def q169 : P2 := .z q84
def r169 : X := .r q169
def q170 : P2 := .o q84
def r170 : X := .r q170
def q171 : P2 := .z q85
def r171 : X := .r q171
def q172 : P2 := .o q85
def r172 : X := .r q172
def q173 : P2 := .z q86
def r173 : X := .r q173
def q174 : P2 := .o q86
def r174 : X := .r q174
def q175 : P2 := .z q87
def r175 : X := .r q175
def q176 : P2 := .o q87
def r176 : X := .r q176
def q177 : P2 := .z q88
def r177 : X := .r q177
def q178 : P2 := .o q88
def r178 : X := .r q178
def q179 : P2 := .z q89
def r179 : X := .r q179
def q180 : P2 := .o q89
def r180 : X := .r q180
def q181 : P2 := .z q90
def r181 : X := .r q181
def q182 : P2 := .o q90
def r182 : X := .r q182
def q183 : P2 := .z q91
def r183 : X := .r q183
def q184 : P2 := .o q91
def r184 : X := .r q184
def q185 : P2 := .z q92
def r185 : X := .r q185
def q186 : P2 := .o q92
def r186 : X := .r q186
def q187 : P2 := .z q93
def r187 : X := .r q187
def q188 : P2 := .o q93
def r188 : X := .r q188
def q189 : P2 := .z q94
def r189 : X := .r q189
def q190 : P2 := .o q94
def r190 : X := .r q190
def q191 : P2 := .z q95
def r191 : X := .r q191
def q192 : P2 := .o q95
def r192 : X := .r q192
def q193 : P2 := .z q96
def r193 : X := .r q193
def q194 : P2 := .o q96
def r194 : X := .r q194
def q195 : P2 := .z q97
def r195 : X := .r q195
def q196 : P2 := .o q97
def r196 : X := .r q196
def q197 : P2 := .z q98
def r197 : X := .r q197
def q198 : P2 := .o q98
def r198 : X := .r q198
def q199 : P2 := .z q99
def r199 : X := .r q199
def q200 : P2 := .o q99
def r200 : X := .r q200
def q201 : P2 := .z q100
def r201 : X := .r q201
def q202 : P2 := .o q100
def r202 : X := .r q202
def q203 : P2 := .z q101
def r203 : X := .r q203
def q204 : P2 := .o q101
def r204 : X := .r q204
def q205 : P2 := .z q102
def r205 : X := .r q205
def q206 : P2 := .o q102
def r206 : X := .r q206
def q207 : P2 := .z q103
def r207 : X := .r q207
def q208 : P2 := .o q103
def r208 : X := .r q208
def q209 : P2 := .z q104
def r209 : X := .r q209
def q210 : P2 := .o q104
def r210 : X := .r q210
def q211 : P2 := .z q105
def r211 : X := .r q211
def q212 : P2 := .o q105
def r212 : X := .r q212
def q213 : P2 := .z q106
def r213 : X := .r q213
def q214 : P2 := .o q106
def r214 : X := .r q214
def q215 : P2 := .z q107
def r215 : X := .r q215
def q216 : P2 := .o q107
def r216 : X := .r q216
def q217 : P2 := .z q108
def r217 : X := .r q217
def q218 : P2 := .o q108
def r218 : X := .r q218
def q219 : P2 := .z q109
def r219 : X := .r q219
def q220 : P2 := .o q109
def r220 : X := .r q220
def q221 : P2 := .z q110
def r221 : X := .r q221
def q222 : P2 := .o q110
def r222 : X := .r q222
def q223 : P2 := .z q111
def r223 : X := .r q223
def q224 : P2 := .o q111
def r224 : X := .r q224
def q225 : P2 := .z q112
def r225 : X := .r q225
def q226 : P2 := .o q112
def r226 : X := .r q226
abbrev n_kilnlaw15_VerifyFaults : Nat := 8
abbrev n_link_Link : Nat := 14
abbrev n_link_Image_Find : Nat := 17
abbrev n_link_Image_Names : Nat := 18
abbrev n_hier_Table_Above : Nat := 19
abbrev n_link_Image_File : Nat := 21
abbrev n_kilnlaw15_head : Nat := 25
abbrev n_verify_Check : Nat := 26
abbrev n_ast_Int : Nat := 29
abbrev n_kilnlaw15_i : Nat := 31
abbrev n_kilnlaw15_check : Nat := 32
abbrev n_kilnlaw15_one : Nat := 33
abbrev n_op_Code_Pool : Nat := 34
abbrev n_op_Code_Ends : Nat := 35
abbrev n_class_File_Right : Nat := 38
abbrev n_hier_New : Nat := 39
abbrev n_hier_Table_Check : Nat := 40
abbrev n_link_Image_pool : Nat := 41
abbrev n_hier_Table_Face : Nat := 42
abbrev n_hier_Table_Field : Nat := 43
abbrev n_face_Face_Method : Nat := 44
abbrev n_face_Sig_Same : Nat := 45
abbrev n_slices_Contains_string_string : Nat := 46
abbrev n_hier_Table_Known : Nat := 47
abbrev n_verify_checker_run : Nat := 49
abbrev n_ast_Of : Nat := 50
abbrev n_hier_Table_Method : Nat := 53
abbrev n_op_Code_Known : Nat := 56
abbrev n_face_Face_Right : Nat := 58
abbrev n_class_Pool_right : Nat := 59
abbrev n_op_Instr_Right : Nat := 60
abbrev n_class_File_many : Nat := 61
abbrev n_hier_twice : Nat := 62
abbrev n_face_Face_Field : Nat := 63
abbrev n_slices_Equal_ast_Type_ast_Type : Nat := 64
abbrev n_slices_Index_string_string : Nat := 65
abbrev n_face_Good : Nat := 66
abbrev n_ast_Type_Class : Nat := 67
abbrev n_verify_checker_flow : Nat := 70
abbrev n_verify_state_clone : Nat := 71
abbrev n_verify_checker_step : Nat := 72
abbrev n_verify_checker_where : Nat := 73
abbrev n_hier_Table_Fits : Nat := 77
abbrev n_ast_Bool : Nat := 79
abbrev n_ast_Nothing : Nat := 81
abbrev n_ast_Type_Object : Nat := 82
abbrev n_ast_Type_Elem : Nat := 83
abbrev n_slices_ContainsFunc_ast_Type_ast_Type : Nat := 90
abbrev n_face_Face_Right_1 : Nat := 91
abbrev n_class_class : Nat := 92
abbrev n_class_sig : Nat := 93
abbrev n_class_File_many_1 : Nat := 94
abbrev n_verify_join : Nat := 95
abbrev n_slices_Clone_ast_Type_ast_Type : Nat := 96
abbrev n_verify_checker_push : Nat := 97
abbrev n_verify_state_take : Nat := 98
abbrev n_verify_checker_pop : Nat := 99
abbrev n_verify_checker_object : Nat := 100
abbrev n_hier_Table_Below : Nat := 103
abbrev n_slices_IndexFunc_ast_Type_ast_Type : Nat := 108
abbrev n_hier_Table_Common : Nat := 109
abbrev n_verify_checker_array : Nat := 110
/- kiln/kilnlaw15.VerifyFaults -/
def af_kilnlaw15_VerifyFaults : AF := .mk 2 (.seq (.ops [.mk (.to q4) .no (.n (.mv (.c (.bool false))))])
 (.seq (.seq (.ops [.mk .ps .no (.e (.call n_kilnlaw15_head [])),
    .mk (.to q14) .no (.n (.not (.s 0)))])
   (.cond r14 (.seq (.ops [.mk (.to q4) .no (.n (.mv (.c (.bool false))))])
     .ret)
    .skip))
  (.seq (.ops [.mk .ps .no (.e (.call n_kilnlaw15_i [(.c (.int .i64 (.ofNat 5) 0)), (.c (.int .i64 (.ofNat 0) 0))])),
    .mk .ps .no (.a (.bslice 2 1 [(.int .i64 (.ofNat 0) 0), (.int .i64 (.ofNat 0) 0)] [(0, (.s 0))])),
    .mk .ps .no (.n (.build [(.int .i64 (.ofNat 0) 0), .nils] [(0, 1, (.c (.int .i64 (.ofNat 0) 0))), (1, 1, (.s 0))])),
    .mk .ps .no (.e (.call n_kilnlaw15_i [(.c (.int .i64 (.ofNat 2) 0)), (.c (.int .i64 (.ofNat 0) 0))])),
    .mk .ps .no (.e (.call n_kilnlaw15_i [(.c (.int .i64 (.ofNat 30) 0)), (.c (.int .i64 (.ofNat 0) 0))])),
    .mk .ps .no (.a (.bslice 2 2 [(.int .i64 (.ofNat 0) 0), (.int .i64 (.ofNat 0) 0)] [(0, (.s 1)), (1, (.s 0))])),
    .mk .ps .no (.n (.build [(.int .i64 (.ofNat 0) 0), .nils] [(0, 1, (.c (.int .i64 (.ofNat 1) 0))), (1, 1, (.s 0))])),
    .mk .ps .no (.e (.call n_kilnlaw15_i [(.c (.int .i64 (.ofNat 3) 0)), (.c (.int .i64 (.ofNat 1) 0))])),
    .mk .ps .no (.e (.call n_kilnlaw15_i [(.c (.int .i64 (.ofNat 29) 0)), (.c (.int .i64 (.ofNat 0) 0))])),
    .mk .ps .no (.a (.bslice 2 2 [(.int .i64 (.ofNat 0) 0), (.int .i64 (.ofNat 0) 0)] [(0, (.s 1)), (1, (.s 0))])),
    .mk .ps .no (.n (.build [(.int .i64 (.ofNat 0) 0), .nils] [(0, 1, (.c (.int .i64 (.ofNat 0) 0))), (1, 1, (.s 0))])),
    .mk .ps .no (.e (.call n_kilnlaw15_i [(.c (.int .i64 (.ofNat 32) 0)), (.c (.int .i64 (.ofNat 1) 0))])),
    .mk .ps .no (.e (.call n_kilnlaw15_i [(.c (.int .i64 (.ofNat 29) 0)), (.c (.int .i64 (.ofNat 0) 0))])),
    .mk .ps .no (.a (.bslice 2 2 [(.int .i64 (.ofNat 0) 0), (.int .i64 (.ofNat 0) 0)] [(0, (.s 1)), (1, (.s 0))])),
    .mk .ps .no (.n (.build [(.int .i64 (.ofNat 0) 0), .nils] [(0, 1, (.c (.int .i64 (.ofNat 1) 0))), (1, 1, (.s 0))])),
    .mk .ps .no (.e (.call n_kilnlaw15_i [(.c (.int .i64 (.ofNat 1) 0)), (.c (.int .i64 (.ofNat 0) 0))])),
    .mk .ps .no (.a (.bslice 2 1 [(.int .i64 (.ofNat 0) 0), (.int .i64 (.ofNat 0) 0)] [(0, (.s 0))])),
    .mk .ps .no (.n (.build [(.int .i64 (.ofNat 0) 0), .nils] [(0, 1, (.c (.int .i64 (.ofNat 0) 0))), (1, 1, (.s 0))])),
    .mk .ps .no (.e (.call n_kilnlaw15_i [(.c (.int .i64 (.ofNat 1) 0)), (.c (.int .i64 (.ofNat 0) 0))])),
    .mk .ps .no (.e (.call n_kilnlaw15_i [(.c (.int .i64 (.ofNat 28) 0)), (.c (.int .i64 (.ofNat 0) 0))])),
    .mk .ps .no (.a (.bslice 2 2 [(.int .i64 (.ofNat 0) 0), (.int .i64 (.ofNat 0) 0)] [(0, (.s 1)), (1, (.s 0))])),
    .mk .ps .no (.n (.build [(.int .i64 (.ofNat 0) 0), .nils] [(0, 1, (.c (.int .i64 (.ofNat 1) 0))), (1, 1, (.s 0))])),
    .mk .ps .no (.e (.call n_kilnlaw15_i [(.c (.int .i64 (.ofNat 18) 0)), (.c (.int .i64 (.ofNat 0) 0))])),
    .mk .ps .no (.e (.call n_kilnlaw15_i [(.c (.int .i64 (.ofNat 2) 0)), (.c (.int .i64 (.ofNat 0) 0))])),
    .mk .ps .no (.e (.call n_kilnlaw15_i [(.c (.int .i64 (.ofNat 12) 0)), (.c (.int .i64 (.ofNat 0) 0))])),
    .mk .ps .no (.a (.bslice 2 3 [(.int .i64 (.ofNat 0) 0), (.int .i64 (.ofNat 0) 0)] [(0, (.s 2)), (1, (.s 1)), (2, (.s 0))])),
    .mk .ps .no (.n (.build [(.int .i64 (.ofNat 0) 0), .nils] [(0, 1, (.c (.int .i64 (.ofNat 2) 0))), (1, 1, (.s 0))])),
    .mk .ps .no (.e (.call n_kilnlaw15_i [(.c (.int .i64 (.ofNat 1) 0)), (.c (.int .i64 (.ofNat 0) 0))])),
    .mk .ps .no (.e (.call n_kilnlaw15_i [(.c (.int .i64 (.ofNat 1) 0)), (.c (.int .i64 (.ofNat 0) 0))])),
    .mk .ps .no (.e (.call n_kilnlaw15_i [(.c (.int .i64 (.ofNat 13) 0)), (.c (.int .i64 (.ofNat 0) 0))])),
    .mk .ps .no (.a (.bslice 2 3 [(.int .i64 (.ofNat 0) 0), (.int .i64 (.ofNat 0) 0)] [(0, (.s 2)), (1, (.s 1)), (2, (.s 0))])),
    .mk .ps .no (.n (.build [(.int .i64 (.ofNat 0) 0), .nils] [(0, 1, (.c (.int .i64 (.ofNat 2) 0))), (1, 1, (.s 0))])),
    .mk .ps .no (.e (.call n_kilnlaw15_i [(.c (.int .i64 (.ofNat 1) 0)), (.c (.int .i64 (.ofNat 0) 0))])),
    .mk .ps .no (.e (.call n_kilnlaw15_i [(.c (.int .i64 (.ofNat 16) 0)), (.c (.int .i64 (.ofNat 0) 0))])),
    .mk .ps .no (.a (.bslice 2 2 [(.int .i64 (.ofNat 0) 0), (.int .i64 (.ofNat 0) 0)] [(0, (.s 1)), (1, (.s 0))])),
    .mk .ps .no (.n (.build [(.int .i64 (.ofNat 0) 0), .nils] [(0, 1, (.c (.int .i64 (.ofNat 1) 0))), (1, 1, (.s 0))])),
    .mk .ps .no (.e (.call n_kilnlaw15_i [(.c (.int .i64 (.ofNat 1) 0)), (.c (.int .i64 (.ofNat 0) 0))])),
    .mk .ps .no (.e (.call n_kilnlaw15_i [(.c (.int .i64 (.ofNat 25) 0)), (.c (.int .i64 (.ofNat 0) 0))])),
    .mk .ps .no (.a (.bslice 2 2 [(.int .i64 (.ofNat 0) 0), (.int .i64 (.ofNat 0) 0)] [(0, (.s 1)), (1, (.s 0))])),
    .mk .ps .no (.n (.build [(.int .i64 (.ofNat 0) 0), .nils] [(0, 1, (.c (.int .i64 (.ofNat 1) 0))), (1, 1, (.s 0))])),
    .mk .ps .no (.e (.call n_kilnlaw15_i [(.c (.int .i64 (.ofNat 32) 0)), (.c (.int .i64 (.ofNat 0) 0))])),
    .mk .ps .no (.e (.call n_kilnlaw15_i [(.c (.int .i64 (.ofNat 26) 0)), (.c (.int .i64 (.ofNat 0) 0))])),
    .mk .ps .no (.a (.bslice 2 2 [(.int .i64 (.ofNat 0) 0), (.int .i64 (.ofNat 0) 0)] [(0, (.s 1)), (1, (.s 0))])),
    .mk .ps .no (.n (.build [(.int .i64 (.ofNat 0) 0), .nils] [(0, 1, (.c (.int .i64 (.ofNat 1) 0))), (1, 1, (.s 0))])),
    .mk .ps .no (.e (.call n_kilnlaw15_i [(.c (.int .i64 (.ofNat 1) 0)), (.c (.int .i64 (.ofNat 0) 0))])),
    .mk .ps .no (.e (.call n_kilnlaw15_i [(.c (.int .i64 (.ofNat 19) 0)), (.c (.int .i64 (.ofNat 1) 0))])),
    .mk .ps .no (.a (.bslice 2 2 [(.int .i64 (.ofNat 0) 0), (.int .i64 (.ofNat 0) 0)] [(0, (.s 1)), (1, (.s 0))])),
    .mk .ps .no (.n (.build [(.int .i64 (.ofNat 0) 0), .nils] [(0, 1, (.c (.int .i64 (.ofNat 1) 0))), (1, 1, (.s 0))])),
    .mk .ps .no (.e (.call n_kilnlaw15_i [(.c (.int .i64 (.ofNat 18) 0)), (.c (.int .i64 (.ofNat 0) 0))])),
    .mk .ps .no (.e (.call n_kilnlaw15_i [(.c (.int .i64 (.ofNat 1) 0)), (.c (.int .i64 (.ofNat 0) 0))])),
    .mk .ps .no (.e (.call n_kilnlaw15_i [(.c (.int .i64 (.ofNat 20) 0)), (.c (.int .i64 (.ofNat 0) 0))])),
    .mk .ps .no (.a (.bslice 2 3 [(.int .i64 (.ofNat 0) 0), (.int .i64 (.ofNat 0) 0)] [(0, (.s 2)), (1, (.s 1)), (2, (.s 0))])),
    .mk .ps .no (.n (.build [(.int .i64 (.ofNat 0) 0), .nils] [(0, 1, (.c (.int .i64 (.ofNat 2) 0))), (1, 1, (.s 0))])),
    .mk .ps .no (.e (.call n_kilnlaw15_i [(.c (.int .i64 (.ofNat 1) 0)), (.c (.int .i64 (.ofNat 0) 0))])),
    .mk .ps .no (.e (.call n_kilnlaw15_i [(.c (.int .i64 (.ofNat 22) 0)), (.c (.int .i64 (.ofNat 0) 0))])),
    .mk .ps .no (.a (.bslice 2 2 [(.int .i64 (.ofNat 0) 0), (.int .i64 (.ofNat 0) 0)] [(0, (.s 1)), (1, (.s 0))])),
    .mk .ps .no (.n (.build [(.int .i64 (.ofNat 0) 0), .nils] [(0, 1, (.c (.int .i64 (.ofNat 1) 0))), (1, 1, (.s 0))])),
    .mk .ps .no (.e (.call n_kilnlaw15_i [(.c (.int .i64 (.ofNat 1) 0)), (.c (.int .i64 (.ofNat 0) 0))])),
    .mk .ps .no (.e (.call n_kilnlaw15_i [(.c (.int .i64 (.ofNat 23) 0)), (.c (.int .i64 (.ofNat 0) 0))])),
    .mk .ps .no (.a (.bslice 2 2 [(.int .i64 (.ofNat 0) 0), (.int .i64 (.ofNat 0) 0)] [(0, (.s 1)), (1, (.s 0))])),
    .mk .ps .no (.n (.build [(.int .i64 (.ofNat 0) 0), .nils] [(0, 1, (.c (.int .i64 (.ofNat 1) 0))), (1, 1, (.s 0))])),
    .mk .ps .no (.e (.call n_kilnlaw15_i [(.c (.int .i64 (.ofNat 1) 0)), (.c (.int .i64 (.ofNat 0) 0))])),
    .mk .ps .no (.e (.call n_kilnlaw15_i [(.c (.int .i64 (.ofNat 1) 0)), (.c (.int .i64 (.ofNat 0) 0))])),
    .mk .ps .no (.e (.call n_kilnlaw15_i [(.c (.int .i64 (.ofNat 1) 0)), (.c (.int .i64 (.ofNat 0) 0))])),
    .mk .ps .no (.e (.call n_kilnlaw15_i [(.c (.int .i64 (.ofNat 1) 0)), (.c (.int .i64 (.ofNat 0) 0))])),
    .mk .ps .no (.e (.call n_kilnlaw15_i [(.c (.int .i64 (.ofNat 1) 0)), (.c (.int .i64 (.ofNat 0) 0))])),
    .mk .ps .no (.a (.bslice 2 5 [(.int .i64 (.ofNat 0) 0), (.int .i64 (.ofNat 0) 0)] [(0, (.s 4)), (1, (.s 3)), (2, (.s 2)), (3, (.s 1)), (4, (.s 0))])),
    .mk .ps .no (.n (.build [(.int .i64 (.ofNat 0) 0), .nils] [(0, 1, (.c (.int .i64 (.ofNat 4) 0))), (1, 1, (.s 0))])),
    .mk .ps .no (.a (.bslice 2 16 [(.int .i64 (.ofNat 0) 0), .nils] [(0, (.s 65)), (1, (.s 61)), (2, (.s 57)), (3, (.s 53)), (4, (.s 50)), (5, (.s 46)), (6, (.s 41)), (7, (.s 36)), (8, (.s 32)), (9, (.s 28)), (10, (.s 24)), (11, (.s 20)), (12, (.s 15)), (13, (.s 11)), (14, (.s 7)), (15, (.s 0))])),
    .mk (.to q5) .no (.n (.mv (.s 0)))])
   (.seq (.ops [.mk .ps .no (.n (.cvi .u64 r0)),
     .mk .ps .no (.n (.bin .rem (.s 0) (.c (.int .u64 (.ofNat 16) 0)))),
     .mk .ps .no (.n (.cvi .i64 (.s 0))),
     .mk .ps .no (.n (.iaddr 2 r5 (.s 0))),
     .mk .ps .no (.n (.ldn 2 (.s 0))),
     .mk (.to q6) .no (.a (.alloc 2 [[(.int .i64 (.ofNat 0) 0), .nils]])),
     .mk .no .no (.e (.st 2 r6 (.s 0)))])
    (.seq (.ops [.mk .ps .no (.a (.bslice 2 0 [(.int .i64 (.ofNat 0) 0), (.int .i64 (.ofNat 0) 0)] [])),
      .mk (.to q7) .no (.n (.mv (.s 0)))])
     (.seq (.ops [.mk .ps .no (.n (.bin .and r1 (.c (.int .i64 (.ofNat 7) 0)))),
       .mk (.to q8) .no (.n (.mv (.s 0)))])
      (.seq (.seq (.ops [.mk (.to q9) .no (.n (.mv (.c (.int .i64 (.ofNat 0) 0))))])
        (.block 0 (.loop (.seq (.seq (.ops [.mk (.to q96) .no (.n (.bin .lss r9 r8))])
            (.cond r96 .skip
             (.exit 0)))
           (.seq (.block 1 (.ops [.mk .ps .no (.e (.call n_kilnlaw15_i [(.c (.int .i64 (.ofNat 1) 0)), (.c (.int .i64 (.ofNat 0) 0))])),
              .mk .ps .no (.e (.call n_kilnlaw15_i [(.c (.int .i64 (.ofNat 30) 0)), (.c (.int .i64 (.ofNat 0) 0))])),
              .mk .ps .no (.a (.bslice 2 2 [(.int .i64 (.ofNat 0) 0), (.int .i64 (.ofNat 0) 0)] [(0, (.s 1)), (1, (.s 0))])),
              .mk .ps .no (.e (.app 2 16 r7 (.s 0))),
              .mk (.to q7) .no (.n (.mv (.s 0)))]))
            (.ops [.mk .ps .no (.n (.bin .add r9 (.c (.int .i64 (.ofNat 1) 0)))),
             .mk (.to q9) .no (.n (.mv (.s 0)))]))))))
       (.seq (.seq (.ops [.mk .ps .no (.n (.faddr 1 r6)),
          .mk (.to q105) .no (.n (.ld1 (.s 0))),
          .mk (.to q106) .no (.n (.lenL r105)),
          .mk (.to q107) .no (.n (.mv (.c (.int .i64 (.ofNat 0) 0))))])
         (.block 2 (.loop (.seq (.ops [.mk (.to q108) .no (.n (.bin .lss r107 r106))])
            (.seq (.cond r108 .skip
              (.exit 2))
             (.seq (.block 3 (.seq (.ops [.mk .ps .no (.n (.iaddr 2 r105 r107)),
                 .mk .ps .no (.n (.ldn 2 (.s 0))),
                 .mk (.to q11) .no (.a (.alloc 2 [[(.int .i64 (.ofNat 0) 0), (.int .i64 (.ofNat 0) 0)]])),
                 .mk .no .no (.e (.st 2 r11 (.s 0)))])
                (.seq (.seq (.ops [.mk .ps .no (.n (.faddr 0 r11)),
                   .mk .ps .no (.n (.ld1 (.s 0))),
                   .mk (.to q113) .no (.n (.eq (.one .int) false (.s 0) (.c (.int .i64 (.ofNat 28) 0))))])
                  (.cond r113 (.ops [.mk .ps .no (.n (.faddr 1 r11)),
                    .mk .no .no (.e (.st 1 (.s 0) (.c (.int .i64 (.ofNat 0) 0))))])
                   .skip))
                 (.ops [.mk .ps .no (.n (.ldn 2 r11)),
                  .mk .ps .no (.a (.bslice 2 1 [(.int .i64 (.ofNat 0) 0), (.int .i64 (.ofNat 0) 0)] [(0, (.s 0))])),
                  .mk .ps .no (.e (.app 2 16 r7 (.s 0))),
                  .mk (.to q7) .no (.n (.mv (.s 0)))]))))
              (.ops [.mk .ps .no (.n (.bin .add r107 (.c (.int .i64 (.ofNat 1) 0)))),
               .mk (.to q107) .no (.n (.mv (.s 0)))])))))))
        (.seq (.ops [.mk .ps .no (.e (.call n_kilnlaw15_one [(.c (.int .i64 (.ofNat 4) 0)), (.c (.int .i64 (.ofNat 2) 0)), r7])),
          .mk .ps .no (.a (.bslice 10 1 [(.str 0 0), (.str 0 0), .nils, .nils, .nils, .nils, .nils, .nils, .nils, .nils] [(0, (.s 0))])),
          .mk .ps .no (.e (.call n_kilnlaw15_check [(.s 0)])),
          .mk (.to q12) .no (.a (.alloc 4 [[(.int .i64 (.ofNat 0) 0), (.str 0 0), (.str 0 0), (.int .i64 (.ofNat 0) 0)]])),
          .mk .no .no (.e (.st 4 r12 (.s 0)))])
         (.seq (.ops [.mk .ps .no (.n (.ldn 4 r12)),
           .mk .ps .no (.n (.faddr 0 r6)),
           .mk .ps .no (.n (.ld1 (.s 0))),
           .mk .ps .no (.n (.bin .mul (.c (.int .i64 (.ofNat 2) 0)) r8)),
           .mk .ps .no (.n (.bin .add (.s 1) (.s 0))),
           .mk .ps .no (.n (.build [(.int .i64 (.ofNat 0) 0), (.str 0 0), (.str 0 0), (.int .i64 (.ofNat 0) 0)] [(0, 1, (.c (.int .i64 (.ofNat 31) 0))), (1, 1, (.c (.str 1 65))), (2, 1, (.c (.str 1 109))), (3, 1, (.s 0))])),
           .mk .ps .no (.n (.eq (.agg [.int, .str, .str, .int]) false (.s 5) (.s 0))),
           .mk (.to q4) .no (.n (.mv (.s 0)))])
          .ret))))))))))
 [.tmp q4] .no 0
/- kiln/link.Link -/
def af_link_Link : AF := .mk 1 (.seq (.ops [.mk (.to q2) .no (.n (.mv (.c .nilp))),
  .mk (.to q3) .no (.n (.mv (.c (.int .i64 (.ofNat 0) 0))))])
 (.seq (.seq (.ops [.mk .ps .no (.n (.lenL r0)),
    .mk (.to q15) .no (.n (.bin .gtr (.s 0) (.c (.int .i64 (.ofNat 200) 0))))])
   (.cond r15 (.seq (.ops [.mk (.to q2) .no (.n (.mv (.c .nilp))),
      .mk (.to q3) .no (.n (.mv (.c (.int .i64 (.ofNat 4) 0))))])
     .ret)
    .skip))
  (.seq (.ops [.mk (.to q4) .no (.n (.mv (.c .nils)))])
   (.seq (.ops [.mk .ps .no (.a (.mkmap)),
     .mk .ps .no (.n (.build [.nilp, .nilm, .nils] [(1, 1, (.s 0))])),
     .mk .ps .no (.a (.box (.s 0))),
     .mk (.to q5) .no (.n (.mv (.s 0)))])
    (.seq (.seq (.ops [.mk (.to q19) .no (.n (.mv r0)),
       .mk (.to q20) .no (.n (.lenL r19)),
       .mk (.to q21) .no (.n (.mv (.c (.int .i64 (.ofNat 0) 0))))])
      (.block 0 (.loop (.seq (.ops [.mk (.to q22) .no (.n (.bin .lss r21 r20))])
         (.seq (.cond r22 .skip
           (.exit 0))
          (.seq (.block 1 (.seq (.ops [.mk .ps .no (.n (.iaddr 10 r19 r21)),
              .mk .ps .no (.n (.ldn 10 (.s 0))),
              .mk (.to q7) .no (.a (.alloc 10 [[(.str 0 0), (.str 0 0), .nils, .nils, .nils, .nils, .nils, .nils, .nils, .nils]])),
              .mk .no .no (.e (.st 10 r7 (.s 0)))])
             (.seq (.reg [.op (.mk (.to q26) .no (.n (.mv r5))),
               .op (.mk (.to q27) .no (.n (.nilck r26))),
               .op (.mk (.to q28) .no (.n (.faddr 1 r27))),
               .op (.mk (.to q29) .no (.n (.ld1 r28))),
               .op (.mk (.to q30) .no (.n (.faddr 0 r7))),
               .op (.mk (.to q31) .no (.n (.faddr 0 r30))),
               .op (.mk (.to q32) .no (.n (.ld1 r31))),
               .op (.mk (.to q33) .no (.n (.look .str true (.agg [(.str 0 0), (.str 0 0), .nils, .nils, .nils, .nils, .nils, .nils, .nils, .nils]) r29 r32))),
               .op (.mk (.to q25) .no (.n (.mv r33))),
               .op (.mk (.to q34) .no (.n (.ext r25 0))),
               .op (.mk (.to q35) .no (.n (.ext r25 1))),
               .op (.mk (.to q8) .no (.a (.alloc 10 [[(.str 0 0), (.str 0 0), .nils, .nils, .nils, .nils, .nils, .nils, .nils, .nils]]))),
               .op (.mk .no .no (.e (.st 10 r8 r34))),
               .op (.mk (.to q9) .no (.n (.mv r35)))])
              (.seq (.block 2 (.seq (.ops [.mk .ps .no (.n (.ldn 10 r7)),
                  .mk .ps .no (.e (.call n_class_File_Right [(.s 0)])),
                  .mk .ps .no (.n (.not (.s 0))),
                  .mk (.to q36) .no (.n (.mv (.s 0)))])
                 (.cond r36 (.seq (.ops [.mk (.to q2) .no (.n (.mv (.c .nilp))),
                    .mk (.to q3) .no (.n (.mv (.c (.int .i64 (.ofNat 2) 0))))])
                   .ret)
                  (.seq (.ops [.mk (.to q40) .no (.n (.mv r9))])
                   (.cond r40 (.seq (.ops [.mk (.to q2) .no (.n (.mv (.c .nilp))),
                      .mk (.to q3) .no (.n (.mv (.c (.int .i64 (.ofNat 6) 0))))])
                     .ret)
                    .skip)))))
               (.seq (.reg [.op (.mk (.to q42) .no (.n (.mv r5))),
                 .op (.mk (.to q43) .no (.n (.nilck r42))),
                 .op (.mk (.to q44) .no (.n (.faddr 1 r43))),
                 .op (.mk (.to q45) .no (.n (.ld1 r44))),
                 .op (.mk (.to q46) .no (.n (.faddr 0 r7))),
                 .op (.mk (.to q47) .no (.n (.faddr 0 r46))),
                 .op (.mk (.to q48) .no (.n (.ld1 r47))),
                 .op (.mk (.to q49) .no (.n (.ldn 10 r7))),
                 .op (.mk .no .no (.e (.mapupd .str r45 r48 r49)))])
                (.seq (.reg [.op (.mk (.to q50) .no (.n (.mv r5))),
                  .op (.mk (.to q51) .no (.n (.mv r5))),
                  .op (.mk (.to q52) .no (.n (.nilck r51))),
                  .op (.mk (.to q53) .no (.n (.faddr 2 r52))),
                  .op (.mk (.to q54) .no (.n (.ld1 r53))),
                  .op (.mk (.to q55) .no (.n (.faddr 0 r7))),
                  .op (.mk (.to q56) .no (.n (.faddr 0 r55))),
                  .op (.mk (.to q57) .no (.n (.ld1 r56))),
                  .op (.mk (.to q58) .no (.a (.bslice 1 1 [(.str 0 0)] [(0, r57)]))),
                  .op (.mk (.to q59) .no (.e (.app 1 16 r54 r58))),
                  .op (.mk (.to q60) .no (.n (.nilck r50))),
                  .op (.mk (.to q61) .no (.n (.faddr 2 r60))),
                  .op (.mk .no .no (.e (.st 1 r61 r59)))])
                 (.ops [.mk .ps .no (.n (.faddr 0 r7)),
                  .mk .ps .no (.n (.ldn 4 (.s 0))),
                  .mk .ps .no (.a (.bslice 4 1 [(.str 0 0), (.str 0 0), .nils, .nils] [(0, (.s 0))])),
                  .mk .ps .no (.e (.app 4 80 r4 (.s 0))),
                  .mk (.to q4) .no (.n (.mv (.s 0)))])))))))
           (.ops [.mk .ps .no (.n (.bin .add r21 (.c (.int .i64 (.ofNat 1) 0)))),
            .mk (.to q21) .no (.n (.mv (.s 0)))])))))))
     (.seq (.ops [.mk .ps .no (.e (.call n_hier_New [r4])),
       .mk .ps .no (.n (.nilck r5)),
       .mk .ps .no (.n (.faddr 0 (.s 0))),
       .mk .no .no (.e (.st 1 (.s 0) (.s 2)))])
      (.seq (.seq (.ops [.mk (.to q73) .no (.n (.mv r0)),
         .mk (.to q74) .no (.n (.lenL r73)),
         .mk (.to q75) .no (.n (.mv (.c (.int .i64 (.ofNat 0) 0))))])
        (.block 3 (.loop (.seq (.ops [.mk (.to q76) .no (.n (.bin .lss r75 r74))])
           (.seq (.cond r76 .skip
             (.exit 3))
            (.seq (.block 4 (.seq (.ops [.mk .ps .no (.n (.iaddr 10 r73 r75)),
                .mk .ps .no (.n (.ldn 10 (.s 0))),
                .mk (.to q11) .no (.a (.alloc 10 [[(.str 0 0), (.str 0 0), .nils, .nils, .nils, .nils, .nils, .nils, .nils, .nils]])),
                .mk .no .no (.e (.st 10 r11 (.s 0)))])
               (.seq (.seq (.reg [.op (.mk (.to q79) .no (.n (.mv r5))),
                  .op (.mk (.to q80) .no (.n (.nilck r79))),
                  .op (.mk (.to q81) .no (.n (.faddr 0 r80))),
                  .op (.mk (.to q82) .no (.n (.ld1 r81))),
                  .op (.mk (.to q83) .no (.n (.faddr 0 r11))),
                  .op (.mk (.to q84) .no (.n (.faddr 0 r83))),
                  .op (.mk (.to q85) .no (.n (.ld1 r84))),
                  .op (.mk (.to q86) .no (.e (.call n_hier_Table_Check [r82, r85]))),
                  .op (.mk (.to q12) .no (.n (.mv r86)))])
                 (.seq (.ops [.mk (.to q88) .no (.n (.eq (.one .int) true r12 (.c (.int .i64 (.ofNat 0) 0))))])
                  (.cond r88 (.seq (.ops [.mk (.to q2) .no (.n (.mv (.c .nilp))),
                     .mk (.to q3) .no (.n (.mv r12))])
                    .ret)
                   .skip)))
                (.seq (.ops [.mk .ps .no (.n (.faddr 4 r11)),
                  .mk .ps .no (.n (.ldn 5 (.s 0))),
                  .mk .ps .no (.e (.call n_link_Image_pool [r5, (.s 0)])),
                  .mk (.to q94) .no (.n (.not (.s 0)))])
                 (.cond r94 (.seq (.ops [.mk (.to q2) .no (.n (.mv (.c .nilp))),
                    .mk (.to q3) .no (.n (.mv (.c (.int .i64 (.ofNat 30) 0))))])
                   .ret)
                  .skip)))))
             (.ops [.mk .ps .no (.n (.bin .add r75 (.c (.int .i64 (.ofNat 1) 0)))),
              .mk (.to q75) .no (.n (.mv (.s 0)))])))))))
       (.seq (.ops [.mk (.to q2) .no (.n (.mv r5)),
         .mk (.to q3) .no (.n (.mv (.c (.int .i64 (.ofNat 0) 0))))])
        .ret))))))))
 [.tmp q2, .tmp q3] .no 0
/- (*kiln/link.Image).Find -/
def af_link_Image_Find : AF := .mk 2 (.seq (.ops [.mk (.to q3) .no (.a (.box r1)),
  .mk (.to q4) .no (.n (.mv (.c (.str 0 0)))),
  .mk (.to q5) .no (.n (.mv (.c (.bool false))))])
 (.seq (.reg [.op (.mk (.to q15) .no (.n (.mv r0))),
   .op (.mk (.to q16) .no (.n (.nilck r15))),
   .op (.mk (.to q17) .no (.n (.faddr 0 r16))),
   .op (.mk (.to q18) .no (.n (.ld1 r17))),
   .op (.mk (.to q19) .no (.n (.faddr 5 r3))),
   .op (.mk (.to q20) .no (.n (.ld1 r19))),
   .op (.mk (.to q21) .no (.e (.call n_hier_Table_Above [r18, r20]))),
   .op (.mk (.to q14) .no (.n (.mv r21))),
   .op (.mk (.to q22) .no (.n (.ext r14 0))),
   .op (.mk (.to q23) .no (.n (.ext r14 1))),
   .op (.mk (.to q6) .no (.n (.mv r22))),
   .op (.mk (.to q7) .no (.n (.mv r23)))])
  (.seq (.seq (.ops [.mk (.to q24) .no (.n (.mv r6)),
     .mk (.to q25) .no (.n (.lenL r24)),
     .mk (.to q26) .no (.n (.mv (.c (.int .i64 (.ofNat 0) 0))))])
    (.block 0 (.loop (.seq (.ops [.mk (.to q27) .no (.n (.bin .lss r26 r25))])
       (.seq (.cond r27 .skip
         (.exit 0))
        (.seq (.block 1 (.seq (.ops [.mk .ps .no (.n (.iaddr 1 r24 r26)),
            .mk .ps .no (.n (.ld1 (.s 0))),
            .mk (.to q9) .no (.n (.mv (.s 0)))])
           (.seq (.ops [.mk .ps .no (.n (.nilck r0)),
             .mk .ps .no (.n (.faddr 0 (.s 0))),
             .mk .ps .no (.n (.ld1 (.s 0))),
             .mk .ps .no (.e (.call n_hier_Table_Face [(.s 0), r9])),
             .mk .ps .no (.n (.ext (.s 0) 0)),
             .mk .ps .no (.n (.ext (.s 1) 1)),
             .mk (.to q10) .no (.a (.alloc 4 [[(.str 0 0), (.str 0 0), .nils, .nils]])),
             .mk .no .no (.e (.st 4 r10 (.s 1)))])
            (.seq (.ops [.mk .ps .no (.n (.ldn 4 r10)),
              .mk .ps .no (.n (.faddr 0 r3)),
              .mk .ps .no (.n (.faddr 0 (.s 0))),
              .mk .ps .no (.n (.ld1 (.s 0))),
              .mk .ps .no (.e (.call n_face_Face_Method [(.s 3), (.s 0)])),
              .mk .ps .no (.n (.ext (.s 0) 0)),
              .mk .ps .no (.n (.ext (.s 1) 1)),
              .mk (.to q12) .no (.a (.alloc 5 [[(.str 0 0), (.bool false), .nils, (.str 0 0), (.bool false)]])),
              .mk .no .no (.e (.st 5 r12 (.s 1))),
              .mk (.to q13) .no (.n (.mv (.s 0)))])
             (.seq (.ops [.mk .ps (.on r13 true) (.n (.ldn 5 r12)),
               .mk .ps (.on r13 true) (.n (.faddr 0 r3)),
               .mk .ps (.on r13 true) (.n (.ldn 5 (.s 0))),
               .mk .ps (.on r13 true) (.e (.call n_face_Sig_Same [(.s 2), (.s 0)])),
               .mk (.to q53) .no (.n (.pick r13 (.s 0) (.c (.bool false))))])
              (.cond r53 (.seq (.ops [.mk (.to q4) .no (.n (.mv r9)),
                 .mk (.to q5) .no (.n (.mv (.c (.bool true))))])
                .ret)
               .skip))))))
         (.ops [.mk .ps .no (.n (.bin .add r26 (.c (.int .i64 (.ofNat 1) 0)))),
          .mk (.to q26) .no (.n (.mv (.s 0)))])))))))
   (.seq (.ops [.mk (.to q4) .no (.n (.mv (.c (.str 0 0)))),
     .mk (.to q5) .no (.n (.mv (.c (.bool false))))])
    .ret))))
 [.tmp q4, .tmp q5] .no 0
/- (*kiln/link.Image).Names -/
def af_link_Image_Names : AF := .mk 1 (.seq (.ops [.mk (.to q2) .no (.n (.mv (.c .nils)))])
 (.seq (.seq (.ops [.mk (.to q4) .no (.n (.eq (.one .ptr) false r0 (.c .nilp)))])
   (.cond r4 (.seq (.ops [.mk (.to q2) .no (.n (.mv (.c .nils)))])
     .ret)
    .skip))
  (.seq (.ops [.mk .ps .no (.n (.nilck r0)),
    .mk .ps .no (.n (.faddr 2 (.s 0))),
    .mk .ps .no (.n (.ld1 (.s 0))),
    .mk .ps .no (.e (.app 1 16 (.c .nils) (.s 0))),
    .mk (.to q2) .no (.n (.mv (.s 0)))])
   .ret)))
 [.tmp q2] .no 0
/- (*kiln/hier.Table).Above -/
def af_hier_Table_Above : AF := .mk 2 (.seq (.ops [.mk (.to q4) .no (.n (.mv (.c .nils))),
  .mk (.to q5) .no (.n (.mv (.c (.bool false))))])
 (.seq (.ops [.mk (.to q6) .no (.n (.mv (.c .nils)))])
  (.seq (.block 0 (.loop (.seq (.seq (.ops [.mk (.to q10) .no (.n (.eq (.one .str) true r1 (.c (.str 0 0))))])
       (.cond r10 .skip
        (.exit 0)))
      (.block 1 (.seq (.ops [.mk .ps .no (.e (.call n_hier_Table_Face [r0, r1])),
         .mk .ps .no (.n (.ext (.s 0) 0)),
         .mk .ps .no (.n (.ext (.s 1) 1)),
         .mk (.to q7) .no (.a (.alloc 4 [[(.str 0 0), (.str 0 0), .nils, .nils]])),
         .mk .no .no (.e (.st 4 r7 (.s 1))),
         .mk (.to q8) .no (.n (.mv (.s 0)))])
        (.seq (.seq (.ops [.mk .ps .no (.n (.not r8)),
           .mk .ps (.on (.s 0) false) (.n (.mv r6)),
           .mk .ps (.on (.s 1) false) (.n (.mv r1)),
           .mk .ps (.on (.s 2) false) (.e (.call n_slices_Contains_string_string [(.s 1), (.s 0)])),
           .mk (.to q23) .no (.n (.pick (.s 3) (.c (.bool true)) (.s 0)))])
          (.cond r23 (.seq (.ops [.mk (.to q4) .no (.n (.mv r6)),
             .mk (.to q5) .no (.n (.mv (.c (.bool false))))])
            .ret)
           .skip))
         (.reg [.op (.mk (.to q25) .no (.n (.mv r6))),
          .op (.mk (.to q26) .no (.n (.mv r1))),
          .op (.mk (.to q27) .no (.a (.bslice 1 1 [(.str 0 0)] [(0, r26)]))),
          .op (.mk (.to q29) .no (.n (.faddr 1 r7))),
          .op (.mk (.to q30) .no (.n (.ld1 r29))),
          .op (.mk (.to q28) .no (.e (.app 1 16 r25 r27))),
          .re q30 .no (.ld1 r29),
          .op (.mk (.to q6) .no (.e (.asg r28))),
          .re q30 .no (.ld1 r29),
          .op (.mk (.to q1) .no (.e (.asg r30)))])))))))
   (.seq (.ops [.mk (.to q4) .no (.n (.mv r6)),
     .mk (.to q5) .no (.n (.mv (.c (.bool true))))])
    .ret))))
 [.tmp q4, .tmp q5] .no 0
/- (*kiln/link.Image).File -/
def af_link_Image_File : AF := .mk 2 (.seq (.ops [.mk (.to q4) .no (.a (.alloc 10 [[(.str 0 0), (.str 0 0), .nils, .nils, .nils, .nils, .nils, .nils, .nils, .nils]])),
  .mk (.to q5) .no (.n (.mv (.c (.bool false))))])
 (.seq (.seq (.ops [.mk (.to q9) .no (.n (.eq (.one .ptr) false r0 (.c .nilp)))])
   (.cond r9 (.seq (.ops [.mk .ps .no (.n (.build [(.str 0 0), (.str 0 0), .nils, .nils, .nils, .nils, .nils, .nils, .nils, .nils] [])),
      .mk .no .no (.e (.st 10 r4 (.s 0))),
      .mk (.to q5) .no (.n (.mv (.c (.bool false))))])
     .ret)
    .skip))
  (.seq (.ops [.mk .ps .no (.n (.nilck r0)),
    .mk .ps .no (.n (.faddr 1 (.s 0))),
    .mk .ps .no (.n (.ld1 (.s 0))),
    .mk .ps .no (.n (.look .str true (.agg [(.str 0 0), (.str 0 0), .nils, .nils, .nils, .nils, .nils, .nils, .nils, .nils]) (.s 0) r1)),
    .mk .ps .no (.n (.ext (.s 0) 0)),
    .mk .ps .no (.n (.ext (.s 1) 1)),
    .mk (.to q6) .no (.a (.alloc 10 [[(.str 0 0), (.str 0 0), .nils, .nils, .nils, .nils, .nils, .nils, .nils, .nils]])),
    .mk .no .no (.e (.st 10 r6 (.s 1))),
    .mk (.to q7) .no (.n (.mv (.s 0)))])
   (.seq (.ops [.mk .ps .no (.n (.ldn 10 r6)),
     .mk .no .no (.e (.st 10 r4 (.s 0))),
     .mk (.to q5) .no (.n (.mv r7))])
    .ret))))
 [.celln q4 10, .tmp q5] .no 0
/- kiln/kilnlaw15.head -/
def af_kilnlaw15_head : AF := .mk 0 (.seq (.ops [.mk (.to q0) .no (.n (.mv (.c (.bool false))))])
 (.seq (.ops [.mk .ps .no (.e (.call n_kilnlaw15_i [(.c (.int .i64 (.ofNat 1) 0)), (.c (.int .i64 (.ofNat 0) 0))])),
   .mk .ps .no (.e (.call n_kilnlaw15_i [(.c (.int .i64 (.ofNat 5) 0)), (.c (.int .i64 (.ofNat 0) 0))])),
   .mk .ps .no (.e (.call n_kilnlaw15_i [(.c (.int .i64 (.ofNat 29) 0)), (.c (.int .i64 (.ofNat 0) 0))])),
   .mk .ps .no (.a (.bslice 2 3 [(.int .i64 (.ofNat 0) 0), (.int .i64 (.ofNat 0) 0)] [(0, (.s 2)), (1, (.s 1)), (2, (.s 0))])),
   .mk .ps .no (.e (.call n_kilnlaw15_one [(.c (.int .i64 (.ofNat 2) 0)), (.c (.int .i64 (.ofNat 1) 0)), (.s 0)])),
   .mk .ps .no (.a (.bslice 10 1 [(.str 0 0), (.str 0 0), .nils, .nils, .nils, .nils, .nils, .nils, .nils, .nils] [(0, (.s 0))])),
   .mk .ps .no (.e (.call n_kilnlaw15_check [(.s 0)])),
   .mk (.to q1) .no (.a (.alloc 4 [[(.int .i64 (.ofNat 0) 0), (.str 0 0), (.str 0 0), (.int .i64 (.ofNat 0) 0)]])),
   .mk .no .no (.e (.st 4 r1 (.s 0)))])
  (.seq (.ops [.mk .ps .no (.e (.call n_kilnlaw15_i [(.c (.int .i64 (.ofNat 1) 0)), (.c (.int .i64 (.ofNat 0) 0))])),
    .mk .ps .no (.e (.call n_kilnlaw15_i [(.c (.int .i64 (.ofNat 3) 0)), (.c (.int .i64 (.ofNat 0) 0))])),
    .mk .ps .no (.e (.call n_kilnlaw15_i [(.c (.int .i64 (.ofNat 5) 0)), (.c (.int .i64 (.ofNat 0) 0))])),
    .mk .ps .no (.e (.call n_kilnlaw15_i [(.c (.int .i64 (.ofNat 29) 0)), (.c (.int .i64 (.ofNat 0) 0))])),
    .mk .ps .no (.a (.bslice 2 4 [(.int .i64 (.ofNat 0) 0), (.int .i64 (.ofNat 0) 0)] [(0, (.s 3)), (1, (.s 2)), (2, (.s 1)), (3, (.s 0))])),
    .mk .ps .no (.e (.call n_kilnlaw15_one [(.c (.int .i64 (.ofNat 2) 0)), (.c (.int .i64 (.ofNat 1) 0)), (.s 0)])),
    .mk .ps .no (.a (.bslice 10 1 [(.str 0 0), (.str 0 0), .nils, .nils, .nils, .nils, .nils, .nils, .nils, .nils] [(0, (.s 0))])),
    .mk .ps .no (.e (.call n_kilnlaw15_check [(.s 0)])),
    .mk (.to q2) .no (.a (.alloc 4 [[(.int .i64 (.ofNat 0) 0), (.str 0 0), (.str 0 0), (.int .i64 (.ofNat 0) 0)]])),
    .mk .no .no (.e (.st 4 r2 (.s 0)))])
   (.seq (.ops [.mk .ps .no (.n (.ldn 4 r1)),
     .mk .ps .no (.n (.build [(.int .i64 (.ofNat 0) 0), (.str 0 0), (.str 0 0), (.int .i64 (.ofNat 0) 0)] [(0, 1, (.c (.int .i64 (.ofNat 31) 0))), (1, 1, (.c (.str 1 65))), (2, 1, (.c (.str 1 109))), (3, 1, (.c (.int .i64 (.ofNat 1) 0)))])),
     .mk .ps .no (.n (.eq (.agg [.int, .str, .str, .int]) false (.s 1) (.s 0))),
     .mk .ps (.on (.s 0) true) (.n (.ldn 4 r2)),
     .mk .ps (.on (.s 1) true) (.n (.build [(.int .i64 (.ofNat 0) 0), (.str 0 0), (.str 0 0), (.int .i64 (.ofNat 0) 0)] [])),
     .mk .ps (.on (.s 2) true) (.n (.eq (.agg [.int, .str, .str, .int]) false (.s 1) (.s 0))),
     .mk .ps .no (.n (.pick (.s 3) (.s 0) (.c (.bool false)))),
     .mk (.to q0) .no (.n (.mv (.s 0)))])
    .ret))))
 [.tmp q0] .no 0
/- kiln/verify.Check -/
def af_verify_Check : AF := .mk 1 (.seq (.ops [.mk (.to q2) .no (.a (.alloc 4 [[(.int .i64 (.ofNat 0) 0), (.str 0 0), (.str 0 0), (.int .i64 (.ofNat 0) 0)]]))])
 (.seq (.seq (.ops [.mk (.to q12) .no (.e (.call n_link_Image_Names [r0])),
    .mk (.to q13) .no (.n (.lenL r12)),
    .mk (.to q14) .no (.n (.mv (.c (.int .i64 (.ofNat 0) 0))))])
   (.block 0 (.loop (.seq (.ops [.mk (.to q15) .no (.n (.bin .lss r14 r13))])
      (.seq (.cond r15 .skip
        (.exit 0))
       (.seq (.block 1 (.seq (.ops [.mk .ps .no (.n (.iaddr 1 r12 r14)),
           .mk .ps .no (.n (.ld1 (.s 0))),
           .mk (.to q4) .no (.n (.mv (.s 0)))])
          (.seq (.ops [.mk .ps .no (.e (.call n_link_Image_File [r0, r4])),
            .mk .ps .no (.n (.ext (.s 0) 0)),
            .mk .ps .no (.n (.ext (.s 1) 1)),
            .mk (.to q5) .no (.a (.alloc 10 [[(.str 0 0), (.str 0 0), .nils, .nils, .nils, .nils, .nils, .nils, .nils, .nils]])),
            .mk .no .no (.e (.st 10 r5 (.s 1)))])
           (.seq (.ops [.mk .ps .no (.n (.faddr 0 r5)),
             .mk .ps .no (.n (.faddr 3 (.s 0))),
             .mk (.to q26) .no (.n (.ld1 (.s 0))),
             .mk (.to q27) .no (.n (.lenL r26)),
             .mk (.to q28) .no (.n (.mv (.c (.int .i64 (.ofNat 0) 0))))])
            (.block 2 (.loop (.seq (.ops [.mk (.to q29) .no (.n (.bin .lss r28 r27))])
               (.seq (.cond r29 .skip
                 (.exit 2))
                (.seq (.block 3 (.seq (.ops [.mk .ps .no (.n (.iaddr 5 r26 r28)),
                    .mk .ps .no (.n (.ldn 5 (.s 0))),
                    .mk (.to q8) .no (.a (.alloc 5 [[(.str 0 0), (.bool false), .nils, (.str 0 0), (.bool false)]])),
                    .mk (.to q7) .no (.n (.mv r28)),
                    .mk .no .no (.e (.st 5 r8 (.s 0)))])
                   (.seq (.reg [.op (.mk (.to q33) .no (.n (.mv r0))),
                     .op (.mk (.to q34) .no (.n (.ldn 10 r5))),
                     .op (.mk (.to q35) .no (.n (.faddr 9 r5))),
                     .op (.mk (.to q36) .no (.n (.ld1 r35))),
                     .op (.mk (.to q37) .no (.n (.mv r7))),
                     .op (.mk (.to q38) .no (.n (.iaddr 3 r36 r37))),
                     .op (.mk (.to q39) .no (.n (.ldn 3 r38))),
                     .op (.mk (.to q40) .no (.n (.ldn 5 r8))),
                     .op (.mk (.to q41) .no (.n (.build [.nilp, (.str 0 0), (.str 0 0), .nils, .nils, .nils, .nils, .nils, .nils, .nils, .nils, (.int .i64 (.ofNat 0) 0), (.int .i64 (.ofNat 0) 0), .nils, (.str 0 0), (.bool false), .nils, (.str 0 0), (.bool false), .nils, .nils] [(0, 1, r33), (1, 10, r34), (11, 3, r39), (14, 5, r40)]))),
                     .op (.mk (.to q42) .no (.a (.box r41))),
                     .op (.mk (.to q9) .no (.n (.mv r42)))])
                    (.seq (.ops [.mk .ps .no (.e (.call n_verify_checker_run [r9])),
                      .mk (.to q10) .no (.n (.mv (.s 0)))])
                     (.seq (.ops [.mk (.to q46) .no (.n (.bin .geq r10 (.c (.int .i64 (.ofNat 0) 0))))])
                      (.cond r46 (.seq (.ops [.mk .ps .no (.n (.faddr 0 r8)),
                         .mk .ps .no (.n (.ld1 (.s 0))),
                         .mk .ps .no (.n (.build [(.int .i64 (.ofNat 0) 0), (.str 0 0), (.str 0 0), (.int .i64 (.ofNat 0) 0)] [(0, 1, (.c (.int .i64 (.ofNat 31) 0))), (1, 1, r4), (2, 1, (.s 0)), (3, 1, r10)])),
                         .mk .no .no (.e (.st 4 r2 (.s 0)))])
                        .ret)
                       .skip))))))
                 (.ops [.mk .ps .no (.n (.bin .add r28 (.c (.int .i64 (.ofNat 1) 0)))),
                  .mk (.to q28) .no (.n (.mv (.s 0)))]))))))))))
        (.ops [.mk .ps .no (.n (.bin .add r14 (.c (.int .i64 (.ofNat 1) 0)))),
         .mk (.to q14) .no (.n (.mv (.s 0)))])))))))
  (.seq (.ops [.mk .ps .no (.n (.build [(.int .i64 (.ofNat 0) 0), (.str 0 0), (.str 0 0), (.int .i64 (.ofNat 0) 0)] [])),
    .mk .no .no (.e (.st 4 r2 (.s 0)))])
   .ret)))
 [.celln q2 4] .no 0
/- kiln/ast.Int -/
def af_ast_Int : AF := .mk 0 (.seq (.ops [.mk (.to q0) .no (.a (.alloc 2 [[(.str 0 0), (.bool false)]]))])
 (.seq (.ops [.mk .ps .no (.n (.build [(.str 0 0), (.bool false)] [(0, 1, (.c (.str 3 7630441)))])),
   .mk .no .no (.e (.st 2 r0 (.s 0)))])
  .ret))
 [.celln q0 2] .no 0
/- kiln/kilnlaw15.i -/
def af_kilnlaw15_i : AF := .mk 2 (.seq (.ops [.mk (.to q4) .no (.a (.alloc 2 [[(.int .i64 (.ofNat 0) 0), (.int .i64 (.ofNat 0) 0)]]))])
 (.seq (.ops [.mk .ps .no (.n (.build [(.int .i64 (.ofNat 0) 0), (.int .i64 (.ofNat 0) 0)] [(0, 1, r0), (1, 1, r1)])),
   .mk .no .no (.e (.st 2 r4 (.s 0)))])
  .ret))
 [.celln q4 2] .no 0
/- kiln/kilnlaw15.check -/
def af_kilnlaw15_check : AF := .mk 1 (.seq (.ops [.mk (.to q2) .no (.a (.alloc 4 [[(.int .i64 (.ofNat 0) 0), (.str 0 0), (.str 0 0), (.int .i64 (.ofNat 0) 0)]]))])
 (.seq (.ops [.mk .ps .no (.e (.call n_link_Link [r0])),
   .mk .ps .no (.n (.ext (.s 0) 0)),
   .mk .ps .no (.n (.ext (.s 1) 1)),
   .mk (.to q3) .no (.n (.mv (.s 1))),
   .mk (.to q4) .no (.n (.mv (.s 0)))])
  (.seq (.seq (.ops [.mk (.to q11) .no (.n (.eq (.one .int) true r4 (.c (.int .i64 (.ofNat 0) 0))))])
    (.cond r11 (.seq (.ops [.mk .ps .no (.n (.build [(.int .i64 (.ofNat 0) 0), (.str 0 0), (.str 0 0), (.int .i64 (.ofNat 0) 0)] [(0, 1, r4)])),
       .mk .no .no (.e (.st 4 r2 (.s 0)))])
      .ret)
     .skip))
   (.seq (.ops [.mk .ps .no (.e (.call n_verify_Check [r3])),
     .mk .no .no (.e (.st 4 r2 (.s 0)))])
    .ret))))
 [.celln q2 4] .no 0
/- kiln/kilnlaw15.one -/
def af_kilnlaw15_one : AF := .mk 3 (.seq (.ops [.mk (.to q6) .no (.a (.alloc 10 [[(.str 0 0), (.str 0 0), .nils, .nils, .nils, .nils, .nils, .nils, .nils, .nils]]))])
 (.seq (.ops [.mk .ps .no (.e (.call n_ast_Int [])),
   .mk .ps .no (.n (.build [(.str 0 0), (.str 0 0), (.bool false)] [(0, 1, (.c (.str 1 102))), (1, 2, (.s 0))])),
   .mk .ps .no (.a (.bslice 3 1 [(.str 0 0), (.str 0 0), (.bool false)] [(0, (.s 0))])),
   .mk .ps .no (.e (.call n_ast_Int [])),
   .mk .ps .no (.a (.bslice 2 1 [(.str 0 0), (.bool false)] [(0, (.s 0))])),
   .mk .ps .no (.e (.call n_ast_Int [])),
   .mk .ps .no (.n (.build [(.str 0 0), (.bool false), .nils, (.str 0 0), (.bool false)] [(0, 1, (.c (.str 1 109))), (1, 1, (.c (.bool true))), (2, 1, (.s 1)), (3, 2, (.s 0))])),
   .mk .ps .no (.a (.bslice 5 1 [(.str 0 0), (.bool false), .nils, (.str 0 0), (.bool false)] [(0, (.s 0))])),
   .mk .ps .no (.n (.build [(.str 0 0), (.str 0 0), .nils, .nils] [(0, 1, (.c (.str 1 65))), (2, 1, (.s 5)), (3, 1, (.s 0))])),
   .mk .ps .no (.a (.bslice 1 1 [(.int .i64 (.ofNat 0) 0)] [(0, (.c (.int .i64 (.ofNat 5) 0)))])),
   .mk .ps .no (.a (.bslice 1 1 [(.str 0 0)] [(0, (.c (.str 1 65)))])),
   .mk .ps .no (.n (.build [(.str 0 0), (.bool false)] [(0, 1, (.c (.str 3 7630441))), (1, 1, (.c (.bool true)))])),
   .mk .ps .no (.n (.build [(.str 0 0), (.bool false)] [(0, 1, (.c (.str 3 7630441)))])),
   .mk .ps .no (.a (.bslice 2 2 [(.str 0 0), (.bool false)] [(0, (.s 1)), (1, (.s 0))])),
   .mk .ps .no (.e (.call n_ast_Int [])),
   .mk .ps .no (.n (.build [(.str 0 0), (.str 0 0), (.bool false)] [(0, 1, (.c (.str 1 102))), (1, 2, (.s 0))])),
   .mk .ps .no (.n (.build [(.str 0 0), (.str 0 0), (.bool false), (.str 0 0)] [(0, 3, (.s 0)), (3, 1, (.c (.str 1 65)))])),
   .mk .ps .no (.a (.bslice 4 1 [(.str 0 0), (.str 0 0), (.bool false), (.str 0 0)] [(0, (.s 0))])),
   .mk .ps .no (.e (.call n_ast_Int [])),
   .mk .ps .no (.a (.bslice 2 1 [(.str 0 0), (.bool false)] [(0, (.s 0))])),
   .mk .ps .no (.e (.call n_ast_Int [])),
   .mk .ps .no (.n (.build [(.str 0 0), (.bool false), .nils, (.str 0 0), (.bool false)] [(0, 1, (.c (.str 1 109))), (1, 1, (.c (.bool true))), (2, 1, (.s 1)), (3, 2, (.s 0))])),
   .mk .ps .no (.n (.build [(.str 0 0), (.bool false), .nils, (.str 0 0), (.bool false), (.str 0 0)] [(0, 5, (.s 0)), (5, 1, (.c (.str 1 65)))])),
   .mk .ps .no (.a (.bslice 6 1 [(.str 0 0), (.bool false), .nils, (.str 0 0), (.bool false), (.str 0 0)] [(0, (.s 0))])),
   .mk .ps .no (.n (.build [.nils, .nils, .nils, .nils, .nils] [(0, 1, (.s 14)), (1, 1, (.s 13)), (2, 1, (.s 10)), (3, 1, (.s 6)), (4, 1, (.s 0))])),
   .mk .ps .no (.n (.build [(.int .i64 (.ofNat 0) 0), (.int .i64 (.ofNat 0) 0), .nils] [(0, 1, r1), (1, 1, r0), (2, 1, r2)])),
   .mk .ps .no (.a (.bslice 3 1 [(.int .i64 (.ofNat 0) 0), (.int .i64 (.ofNat 0) 0), .nils] [(0, (.s 0))])),
   .mk .ps .no (.n (.build [(.str 0 0), (.str 0 0), .nils, .nils, .nils, .nils, .nils, .nils, .nils, .nils] [(0, 4, (.s 18)), (4, 5, (.s 2)), (9, 1, (.s 0))])),
   .mk .no .no (.e (.st 10 r6 (.s 0)))])
  .ret))
 [.celln q6 10] .no 0
/- (kiln/op.Code).Pool -/
def af_op_Code_Pool : AF := .mk 1 (.seq (.ops [.mk (.to q2) .no (.n (.mv (.c (.int .i32 (.ofNat 0) 0))))])
 (.seq (.seq (.ops [.mk .ps .no (.e (.call n_op_Code_Known [r0])),
    .mk (.to q5) .no (.n (.not (.s 0)))])
   (.cond r5 (.seq (.ops [.mk (.to q2) .no (.n (.mv (.c (.int .i32 (.ofNat 0) 0))))])
     .ret)
    .skip))
  (.seq (.ops [.mk .ps .no (.n (.iaddrA 33 2 (.c (.gptr 0 0)) r0)),
    .mk .ps .no (.n (.faddr 1 (.s 0))),
    .mk .ps .no (.n (.ld1 (.s 0))),
    .mk (.to q2) .no (.n (.mv (.s 0)))])
   .ret)))
 [.tmp q2] .no 0
/- (kiln/op.Code).Ends -/
def af_op_Code_Ends : AF := .mk 1 (.seq (.ops [.mk (.to q2) .no (.n (.mv (.c (.bool false))))])
 (.seq (.ops [.mk .ps .no (.n (.eq (.one .int) false r0 (.c (.int .i64 (.ofNat 27) 0)))),
   .mk .ps (.on (.s 0) false) (.n (.mv r0)),
   .mk .ps (.on (.s 1) false) (.n (.eq (.one .int) false (.s 0) (.c (.int .i64 (.ofNat 29) 0)))),
   .mk .ps .no (.n (.pick (.s 2) (.c (.bool true)) (.s 0))),
   .mk (.to q2) .no (.n (.mv (.s 0)))])
  .ret))
 [.tmp q2] .no 0
/- (kiln/class.File).Right -/
def af_class_File_Right : AF := .mk 1 (.seq (.ops [.mk (.to q1) .no (.a (.box r0)),
  .mk (.to q2) .no (.n (.mv (.c (.bool false))))])
 (.seq (.seq (.ops [.mk .ps .no (.n (.faddr 0 r1)),
    .mk .ps .no (.n (.ldn 4 (.s 0))),
    .mk .ps .no (.e (.call n_face_Face_Right [(.s 0)])),
    .mk .ps .no (.n (.not (.s 0))),
    .mk .ps (.on (.s 0) false) (.n (.faddr 4 r1)),
    .mk .ps (.on (.s 1) false) (.n (.ldn 5 (.s 0))),
    .mk .ps (.on (.s 2) false) (.e (.call n_class_Pool_right [(.s 0)])),
    .mk .ps (.on (.s 3) false) (.n (.not (.s 0))),
    .mk .ps .no (.n (.pick (.s 4) (.c (.bool true)) (.s 0))),
    .mk .ps (.on (.s 0) false) (.n (.faddr 9 r1)),
    .mk .ps (.on (.s 1) false) (.n (.ld1 (.s 0))),
    .mk .ps (.on (.s 2) false) (.n (.lenL (.s 0))),
    .mk .ps (.on (.s 3) false) (.n (.faddr 0 r1)),
    .mk .ps (.on (.s 4) false) (.n (.faddr 3 (.s 0))),
    .mk .ps (.on (.s 5) false) (.n (.ld1 (.s 0))),
    .mk .ps (.on (.s 6) false) (.n (.lenL (.s 0))),
    .mk .ps (.on (.s 7) false) (.n (.eq (.one .int) true (.s 4) (.s 0))),
    .mk (.to q28) .no (.n (.pick (.s 8) (.c (.bool true)) (.s 0)))])
   (.cond r28 (.seq (.ops [.mk (.to q2) .no (.n (.mv (.c (.bool false))))])
     .ret)
    .skip))
  (.seq (.seq (.ops [.mk .ps .no (.n (.faddr 9 r1)),
     .mk (.to q30) .no (.n (.ld1 (.s 0))),
     .mk (.to q31) .no (.n (.lenL r30)),
     .mk (.to q32) .no (.n (.mv (.c (.int .i64 (.ofNat 0) 0))))])
    (.block 0 (.loop (.seq (.ops [.mk (.to q33) .no (.n (.bin .lss r32 r31))])
       (.seq (.cond r33 .skip
         (.exit 0))
        (.seq (.block 1 (.seq (.ops [.mk .ps .no (.n (.iaddr 3 r30 r32)),
            .mk .ps .no (.n (.ldn 3 (.s 0))),
            .mk (.to q4) .no (.a (.alloc 3 [[(.int .i64 (.ofNat 0) 0), (.int .i64 (.ofNat 0) 0), .nils]])),
            .mk (.to q3) .no (.n (.mv r32)),
            .mk .no .no (.e (.st 3 r4 (.s 0)))])
           (.seq (.ops [.mk .ps .no (.n (.faddr 0 r1)),
             .mk .ps .no (.n (.faddr 3 (.s 0))),
             .mk .ps .no (.n (.ld1 (.s 0))),
             .mk .ps .no (.n (.iaddr 5 (.s 0) r3)),
             .mk .ps .no (.n (.ldn 5 (.s 0))),
             .mk (.to q5) .no (.a (.alloc 5 [[(.str 0 0), (.bool false), .nils, (.str 0 0), (.bool false)]])),
             .mk .no .no (.e (.st 5 r5 (.s 0)))])
            (.seq (.ops [.mk .ps .no (.n (.faddr 2 r5)),
              .mk .ps .no (.n (.ld1 (.s 0))),
              .mk .ps .no (.n (.lenL (.s 0))),
              .mk (.to q6) .no (.n (.mv (.s 0)))])
             (.seq (.seq (.ops [.mk .ps .no (.n (.faddr 1 r5)),
                .mk .ps .no (.n (.ld1 (.s 0))),
                .mk (.to q48) .no (.n (.not (.s 0)))])
               (.cond r48 (.ops [.mk .ps .no (.n (.bin .add r6 (.c (.int .i64 (.ofNat 1) 0)))),
                 .mk (.to q6) .no (.n (.mv (.s 0)))])
                .skip))
              (.seq (.seq (.ops [.mk .ps .no (.n (.faddr 0 r4)),
                 .mk .ps .no (.n (.ld1 (.s 0))),
                 .mk .ps .no (.n (.bin .lss (.s 0) r6)),
                 .mk .ps (.on (.s 0) false) (.n (.faddr 0 r4)),
                 .mk .ps (.on (.s 1) false) (.n (.ld1 (.s 0))),
                 .mk .ps (.on (.s 2) false) (.n (.bin .gtr (.s 0) (.c (.int .i64 (.ofNat 401) 0)))),
                 .mk .ps .no (.n (.pick (.s 3) (.c (.bool true)) (.s 0))),
                 .mk .ps (.on (.s 0) false) (.n (.faddr 1 r4)),
                 .mk .ps (.on (.s 1) false) (.n (.ld1 (.s 0))),
                 .mk .ps (.on (.s 2) false) (.n (.bin .lss (.s 0) (.c (.int .i64 (.ofNat 0) 0)))),
                 .mk .ps .no (.n (.pick (.s 3) (.c (.bool true)) (.s 0))),
                 .mk .ps (.on (.s 0) false) (.n (.faddr 1 r4)),
                 .mk .ps (.on (.s 1) false) (.n (.ld1 (.s 0))),
                 .mk .ps (.on (.s 2) false) (.n (.bin .gtr (.s 0) (.c (.int .i64 (.ofNat 1000) 0)))),
                 .mk .ps .no (.n (.pick (.s 3) (.c (.bool true)) (.s 0))),
                 .mk .ps (.on (.s 0) false) (.n (.faddr 2 r4)),
                 .mk .ps (.on (.s 1) false) (.n (.ld1 (.s 0))),
                 .mk .ps (.on (.s 2) false) (.n (.lenL (.s 0))),
                 .mk .ps (.on (.s 3) false) (.n (.bin .lss (.s 0) (.c (.int .i64 (.ofNat 1) 0)))),
                 .mk .ps .no (.n (.pick (.s 4) (.c (.bool true)) (.s 0))),
                 .mk .ps (.on (.s 0) false) (.n (.faddr 2 r4)),
                 .mk .ps (.on (.s 1) false) (.n (.ld1 (.s 0))),
                 .mk .ps (.on (.s 2) false) (.n (.lenL (.s 0))),
                 .mk .ps (.on (.s 3) false) (.n (.bin .gtr (.s 0) (.c (.int .i64 (.ofNat 16384) 0)))),
                 .mk (.to q81) .no (.n (.pick (.s 4) (.c (.bool true)) (.s 0)))])
                (.cond r81 (.seq (.ops [.mk (.to q2) .no (.n (.mv (.c (.bool false))))])
                  .ret)
                 .skip))
               (.seq (.ops [.mk .ps .no (.n (.faddr 2 r4)),
                 .mk (.to q83) .no (.n (.ld1 (.s 0))),
                 .mk (.to q84) .no (.n (.lenL r83)),
                 .mk (.to q85) .no (.n (.mv (.c (.int .i64 (.ofNat 0) 0))))])
                (.block 2 (.loop (.seq (.ops [.mk (.to q86) .no (.n (.bin .lss r85 r84))])
                   (.seq (.cond r86 .skip
                     (.exit 2))
                    (.seq (.block 3 (.seq (.ops [.mk .ps .no (.n (.iaddr 2 r83 r85)),
                        .mk .ps .no (.n (.ldn 2 (.s 0))),
                        .mk (.to q8) .no (.a (.alloc 2 [[(.int .i64 (.ofNat 0) 0), (.int .i64 (.ofNat 0) 0)]])),
                        .mk .no .no (.e (.st 2 r8 (.s 0)))])
                       (.seq (.reg [.op (.mk (.to q89) .no (.n (.ldn 2 r8))),
                         .op (.mk (.to q90) .no (.n (.ldn 10 r1))),
                         .op (.mk (.to q91) .no (.n (.ldn 3 r4))),
                         .op (.mk (.to q92) .no (.e (.call n_class_File_many [r90, r91]))),
                         .re q89 .no (.ldn 2 r8),
                         .op (.mk (.to q93) .no (.e (.call n_op_Instr_Right [r89, r92]))),
                         .op (.mk (.to q94) .no (.n (.not r93)))])
                        (.cond r94 (.seq (.ops [.mk (.to q2) .no (.n (.mv (.c (.bool false))))])
                          .ret)
                         .skip))))
                     (.ops [.mk .ps .no (.n (.bin .add r85 (.c (.int .i64 (.ofNat 1) 0)))),
                      .mk (.to q85) .no (.n (.mv (.s 0)))])))))))))))))
         (.ops [.mk .ps .no (.n (.bin .add r32 (.c (.int .i64 (.ofNat 1) 0)))),
          .mk (.to q32) .no (.n (.mv (.s 0)))])))))))
   (.seq (.ops [.mk (.to q2) .no (.n (.mv (.c (.bool true))))])
    .ret))))
 [.tmp q2] .no 0
/- kiln/hier.New -/
def af_hier_New : AF := .mk 1 (.seq (.ops [.mk (.to q2) .no (.n (.mv (.c .nilp)))])
 (.seq (.ops [.mk .ps .no (.a (.mkmap)),
   .mk .ps .no (.a (.mkmap)),
   .mk .ps .no (.n (.build [.nilm, .nilm] [(0, 1, (.s 1)), (1, 1, (.s 0))])),
   .mk .ps .no (.a (.box (.s 0))),
   .mk (.to q3) .no (.n (.mv (.s 0)))])
  (.seq (.seq (.ops [.mk (.to q10) .no (.n (.mv r0)),
     .mk (.to q11) .no (.n (.lenL r10)),
     .mk (.to q12) .no (.n (.mv (.c (.int .i64 (.ofNat 0) 0))))])
    (.block 0 (.loop (.seq (.ops [.mk (.to q13) .no (.n (.bin .lss r12 r11))])
       (.seq (.cond r13 .skip
         (.exit 0))
        (.seq (.block 1 (.seq (.ops [.mk .ps .no (.n (.iaddr 4 r10 r12)),
            .mk .ps .no (.n (.ldn 4 (.s 0))),
            .mk (.to q5) .no (.a (.alloc 4 [[(.str 0 0), (.str 0 0), .nils, .nils]])),
            .mk .no .no (.e (.st 4 r5 (.s 0)))])
           (.reg [.op (.mk (.to q16) .no (.n (.mv r3))),
            .op (.mk (.to q17) .no (.n (.nilck r16))),
            .op (.mk (.to q18) .no (.n (.faddr 0 r17))),
            .op (.mk (.to q19) .no (.n (.ld1 r18))),
            .op (.mk (.to q20) .no (.n (.faddr 0 r5))),
            .op (.mk (.to q21) .no (.n (.ld1 r20))),
            .op (.mk (.to q22) .no (.n (.ldn 4 r5))),
            .op (.mk .no .no (.e (.mapupd .str r19 r21 r22)))])))
         (.ops [.mk .ps .no (.n (.bin .add r12 (.c (.int .i64 (.ofNat 1) 0)))),
          .mk (.to q12) .no (.n (.mv (.s 0)))])))))))
   (.seq (.ops [.mk (.to q2) .no (.n (.mv r3))])
    .ret))))
 [.tmp q2] .no 0
/- (*kiln/hier.Table).Check -/
def af_hier_Table_Check : AF := .mk 2 (.seq (.ops [.mk (.to q4) .no (.n (.mv (.c (.int .i64 (.ofNat 0) 0))))])
 (.seq (.ops [.mk .ps .no (.e (.call n_hier_Table_Face [r0, r1])),
   .mk .ps .no (.n (.ext (.s 0) 0)),
   .mk .ps .no (.n (.ext (.s 1) 1)),
   .mk (.to q5) .no (.a (.alloc 4 [[(.str 0 0), (.str 0 0), .nils, .nils]])),
   .mk .no .no (.e (.st 4 r5 (.s 1))),
   .mk (.to q6) .no (.n (.mv (.s 0)))])
  (.seq (.seq (.ops [.mk .ps .no (.n (.not r6)),
     .mk .ps (.on (.s 0) false) (.n (.mv r1)),
     .mk .ps (.on (.s 1) false) (.n (.eq (.one .str) false (.s 0) (.c (.str 0 0)))),
     .mk (.to q32) .no (.n (.pick (.s 2) (.c (.bool true)) (.s 0)))])
    (.cond r32 (.seq (.ops [.mk (.to q4) .no (.n (.mv (.c (.int .i64 (.ofNat 23) 0))))])
      .ret)
     .skip))
   (.seq (.ops [.mk .ps .no (.e (.call n_hier_Table_Above [r0, r1])),
     .mk .ps .no (.n (.ext (.s 0) 0)),
     .mk .ps .no (.n (.ext (.s 1) 1)),
     .mk (.to q7) .no (.n (.mv (.s 1))),
     .mk (.to q8) .no (.n (.mv (.s 0)))])
    (.seq (.ops [.mk .ps .no (.n (.lenL r7)),
      .mk .ps .no (.n (.bin .sub (.s 0) (.c (.int .i64 (.ofNat 1) 0)))),
      .mk .ps .no (.n (.iaddr 1 r7 (.s 0))),
      .mk .ps .no (.n (.ld1 (.s 0))),
      .mk .ps .no (.e (.call n_hier_Table_Face [r0, (.s 0)])),
      .mk .ps .no (.n (.ext (.s 0) 0)),
      .mk .ps .no (.n (.ext (.s 1) 1)),
      .mk (.to q9) .no (.a (.alloc 4 [[(.str 0 0), (.str 0 0), .nils, .nils]])),
      .mk .no .no (.e (.st 4 r9 (.s 1)))])
     (.seq (.block 0 (.seq (.ops [.mk .ps .no (.n (.not r8)),
         .mk .ps (.on (.s 0) true) (.n (.mv r7)),
         .mk .ps (.on (.s 1) true) (.n (.faddr 1 r9)),
         .mk .ps (.on (.s 2) true) (.n (.ld1 (.s 0))),
         .mk .ps (.on (.s 3) true) (.e (.call n_slices_Contains_string_string [(.s 2), (.s 0)])),
         .mk .ps (.on (.s 4) true) (.n (.not (.s 0))),
         .mk .ps .no (.n (.pick (.s 5) (.s 0) (.c (.bool false)))),
         .mk (.to q50) .no (.n (.mv (.s 0)))])
        (.cond r50 (.seq (.ops [.mk (.to q4) .no (.n (.mv (.c (.int .i64 (.ofNat 23) 0))))])
          .ret)
         (.seq (.ops [.mk .ps .no (.n (.not r8)),
           .mk (.to q60) .no (.n (.mv (.s 0)))])
          (.cond r60 (.seq (.ops [.mk (.to q4) .no (.n (.mv (.c (.int .i64 (.ofNat 26) 0))))])
            .ret)
           (.seq (.ops [.mk .ps .no (.n (.ldn 4 r5)),
             .mk .ps .no (.e (.call n_hier_twice [(.s 0)])),
             .mk (.to q63) .no (.n (.mv (.s 0)))])
            (.cond r63 (.seq (.ops [.mk (.to q4) .no (.n (.mv (.c (.int .i64 (.ofNat 6) 0))))])
              .ret)
             .skip)))))))
      (.seq (.seq (.ops [.mk .ps .no (.n (.faddr 2 r5)),
         .mk (.to q67) .no (.n (.ld1 (.s 0))),
         .mk (.to q68) .no (.n (.lenL r67)),
         .mk (.to q69) .no (.n (.mv (.c (.int .i64 (.ofNat 0) 0))))])
        (.block 1 (.loop (.seq (.ops [.mk (.to q70) .no (.n (.bin .lss r69 r68))])
           (.seq (.cond r70 .skip
             (.exit 1))
            (.seq (.block 2 (.seq (.ops [.mk .ps .no (.n (.iaddr 3 r67 r69)),
                .mk .ps .no (.n (.ldn 3 (.s 0))),
                .mk (.to q12) .no (.a (.alloc 3 [[(.str 0 0), (.str 0 0), (.bool false)]])),
                .mk .no .no (.e (.st 3 r12 (.s 0)))])
               (.seq (.seq (.ops [.mk .ps .no (.n (.faddr 1 r12)),
                  .mk .ps .no (.n (.ldn 2 (.s 0))),
                  .mk .ps .no (.a (.bslice 2 1 [(.str 0 0), (.bool false)] [(0, (.s 0))])),
                  .mk .ps .no (.e (.call n_hier_Table_Known [r0, (.s 0)])),
                  .mk (.to q78) .no (.n (.not (.s 0)))])
                 (.cond r78 (.seq (.ops [.mk (.to q4) .no (.n (.mv (.c (.int .i64 (.ofNat 23) 0))))])
                   .ret)
                  .skip))
                (.seq (.ops [.mk .ps .no (.n (.faddr 1 r5)),
                  .mk .ps .no (.n (.ld1 (.s 0))),
                  .mk .ps .no (.n (.faddr 0 r12)),
                  .mk .ps .no (.n (.ld1 (.s 0))),
                  .mk .ps .no (.e (.call n_hier_Table_Field [r0, (.s 2), (.s 0)])),
                  .mk .ps .no (.n (.ext (.s 0) 0)),
                  .mk .ps .no (.n (.ext (.s 1) 1)),
                  .mk .ps .no (.n (.ext (.s 2) 2)),
                  .mk .ps .no (.a (.alloc 2 [[(.str 0 0), (.bool false)]])),
                  .mk .no .no (.e (.st 2 (.s 0) (.s 2))),
                  .mk (.to q15) .no (.n (.mv (.s 1)))])
                 (.seq (.ops [.mk (.to q89) .no (.n (.mv r15))])
                  (.cond r89 (.seq (.ops [.mk (.to q4) .no (.n (.mv (.c (.int .i64 (.ofNat 6) 0))))])
                    .ret)
                   .skip))))))
             (.ops [.mk .ps .no (.n (.bin .add r69 (.c (.int .i64 (.ofNat 1) 0)))),
              .mk (.to q69) .no (.n (.mv (.s 0)))])))))))
       (.seq (.seq (.ops [.mk .ps .no (.n (.faddr 3 r5)),
          .mk (.to q92) .no (.n (.ld1 (.s 0))),
          .mk (.to q93) .no (.n (.lenL r92)),
          .mk (.to q94) .no (.n (.mv (.c (.int .i64 (.ofNat 0) 0))))])
         (.block 3 (.loop (.seq (.ops [.mk (.to q95) .no (.n (.bin .lss r94 r93))])
            (.seq (.cond r95 .skip
              (.exit 3))
             (.seq (.block 4 (.seq (.ops [.mk .ps .no (.n (.iaddr 5 r92 r94)),
                 .mk .ps .no (.n (.ldn 5 (.s 0))),
                 .mk (.to q17) .no (.a (.alloc 5 [[(.str 0 0), (.bool false), .nils, (.str 0 0), (.bool false)]])),
                 .mk .no .no (.e (.st 5 r17 (.s 0)))])
                (.seq (.seq (.ops [.mk .ps .no (.n (.faddr 3 r17)),
                   .mk .ps .no (.n (.ldn 2 (.s 0))),
                   .mk .ps .no (.a (.bslice 2 1 [(.str 0 0), (.bool false)] [(0, (.s 0))])),
                   .mk .ps .no (.n (.faddr 2 r17)),
                   .mk .ps .no (.n (.ld1 (.s 0))),
                   .mk .ps .no (.e (.app 2 24 (.s 2) (.s 0))),
                   .mk .ps .no (.e (.call n_hier_Table_Known [r0, (.s 0)])),
                   .mk (.to q106) .no (.n (.not (.s 0)))])
                  (.cond r106 (.seq (.ops [.mk (.to q4) .no (.n (.mv (.c (.int .i64 (.ofNat 23) 0))))])
                    .ret)
                   .skip))
                 (.seq (.ops [.mk .ps .no (.n (.faddr 1 r5)),
                   .mk .ps .no (.n (.ld1 (.s 0))),
                   .mk .ps .no (.n (.faddr 0 r17)),
                   .mk .ps .no (.n (.ld1 (.s 0))),
                   .mk .ps .no (.e (.call n_hier_Table_Method [r0, (.s 2), (.s 0), (.c (.bool false))])),
                   .mk .ps .no (.n (.ext (.s 0) 0)),
                   .mk .ps .no (.n (.ext (.s 1) 1)),
                   .mk .ps .no (.n (.ext (.s 2) 2)),
                   .mk (.to q19) .no (.a (.alloc 5 [[(.str 0 0), (.bool false), .nils, (.str 0 0), (.bool false)]])),
                   .mk .no .no (.e (.st 5 r19 (.s 1))),
                   .mk (.to q20) .no (.n (.mv (.s 0)))])
                  (.seq (.ops [.mk .ps (.on r20 true) (.n (.faddr 1 r17)),
                    .mk .ps (.on r20 true) (.n (.ld1 (.s 0))),
                    .mk .ps (.on r20 true) (.n (.not (.s 0))),
                    .mk .ps .no (.n (.pick r20 (.s 0) (.c (.bool false)))),
                    .mk .ps (.on (.s 0) true) (.n (.ldn 5 r17)),
                    .mk .ps (.on (.s 1) true) (.n (.ldn 5 r19)),
                    .mk .ps (.on (.s 2) true) (.e (.call n_face_Sig_Same [(.s 1), (.s 0)])),
                    .mk .ps (.on (.s 3) true) (.n (.not (.s 0))),
                    .mk (.to q128) .no (.n (.pick (.s 4) (.s 0) (.c (.bool false))))])
                   (.cond r128 (.seq (.ops [.mk (.to q4) .no (.n (.mv (.c (.int .i64 (.ofNat 27) 0))))])
                     .ret)
                    .skip))))))
              (.ops [.mk .ps .no (.n (.bin .add r94 (.c (.int .i64 (.ofNat 1) 0)))),
               .mk (.to q94) .no (.n (.mv (.s 0)))])))))))
        (.seq (.ops [.mk (.to q4) .no (.n (.mv (.c (.int .i64 (.ofNat 0) 0))))])
         .ret)))))))))
 [.tmp q4] .no 0
/- (*kiln/link.Image).pool -/
def af_link_Image_pool : AF := .mk 2 (.seq (.ops [.mk (.to q3) .no (.a (.box r1)),
  .mk (.to q4) .no (.n (.mv (.c (.bool false))))])
 (.seq (.seq (.ops [.mk .ps .no (.n (.faddr 1 r3)),
    .mk (.to q17) .no (.n (.ld1 (.s 0))),
    .mk (.to q18) .no (.n (.lenL r17)),
    .mk (.to q19) .no (.n (.mv (.c (.int .i64 (.ofNat 0) 0))))])
   (.block 0 (.loop (.seq (.ops [.mk (.to q20) .no (.n (.bin .lss r19 r18))])
      (.seq (.cond r20 .skip
        (.exit 0))
       (.seq (.block 1 (.seq (.ops [.mk .ps .no (.n (.iaddr 1 r17 r19)),
           .mk .ps .no (.n (.ld1 (.s 0))),
           .mk (.to q6) .no (.n (.mv (.s 0)))])
          (.seq (.reg [.op (.mk (.to q23) .no (.n (.mv r0))),
            .op (.mk (.to q24) .no (.n (.nilck r23))),
            .op (.mk (.to q25) .no (.n (.faddr 0 r24))),
            .op (.mk (.to q26) .no (.n (.ld1 r25))),
            .op (.mk (.to q27) .no (.n (.mv r6))),
            .op (.mk (.to q28) .no (.e (.call n_ast_Of [r27]))),
            .re q26 .no (.ld1 r25),
            .op (.mk (.to q29) .no (.a (.bslice 2 1 [(.str 0 0), (.bool false)] [(0, r28)]))),
            .op (.mk (.to q30) .no (.e (.call n_hier_Table_Known [r26, r29]))),
            .op (.mk (.to q31) .no (.n (.not r30)))])
           (.cond r31 (.seq (.ops [.mk (.to q4) .no (.n (.mv (.c (.bool false))))])
             .ret)
            .skip))))
        (.ops [.mk .ps .no (.n (.bin .add r19 (.c (.int .i64 (.ofNat 1) 0)))),
         .mk (.to q19) .no (.n (.mv (.s 0)))])))))))
  (.seq (.seq (.reg [.op (.mk (.to q33) .no (.n (.mv r0))),
     .op (.mk (.to q34) .no (.n (.nilck r33))),
     .op (.mk (.to q35) .no (.n (.faddr 0 r34))),
     .op (.mk (.to q36) .no (.n (.ld1 r35))),
     .op (.mk (.to q37) .no (.n (.faddr 2 r3))),
     .op (.mk (.to q38) .no (.n (.ld1 r37))),
     .op (.mk (.to q39) .no (.e (.call n_hier_Table_Known [r36, r38]))),
     .op (.mk (.to q40) .no (.n (.not r39)))])
    (.cond r40 (.seq (.ops [.mk (.to q4) .no (.n (.mv (.c (.bool false))))])
      .ret)
     .skip))
   (.seq (.seq (.ops [.mk .ps .no (.n (.faddr 3 r3)),
      .mk (.to q42) .no (.n (.ld1 (.s 0))),
      .mk (.to q43) .no (.n (.lenL r42)),
      .mk (.to q44) .no (.n (.mv (.c (.int .i64 (.ofNat 0) 0))))])
     (.block 2 (.loop (.seq (.ops [.mk (.to q45) .no (.n (.bin .lss r44 r43))])
        (.seq (.cond r45 .skip
          (.exit 2))
         (.seq (.block 3 (.seq (.ops [.mk .ps .no (.n (.iaddr 4 r42 r44)),
             .mk .ps .no (.n (.ldn 4 (.s 0))),
             .mk (.to q8) .no (.a (.alloc 4 [[(.str 0 0), (.str 0 0), (.bool false), (.str 0 0)]])),
             .mk .no .no (.e (.st 4 r8 (.s 0)))])
            (.seq (.reg [.op (.mk (.to q49) .no (.n (.mv r0))),
              .op (.mk (.to q50) .no (.n (.nilck r49))),
              .op (.mk (.to q51) .no (.n (.faddr 0 r50))),
              .op (.mk (.to q52) .no (.n (.ld1 r51))),
              .op (.mk (.to q53) .no (.n (.faddr 3 r8))),
              .op (.mk (.to q54) .no (.n (.ld1 r53))),
              .op (.mk (.to q55) .no (.n (.faddr 0 r8))),
              .op (.mk (.to q56) .no (.n (.faddr 0 r55))),
              .op (.mk (.to q57) .no (.n (.ld1 r56))),
              .op (.mk (.to q10) .no (.a (.alloc 2 [[(.str 0 0), (.bool false)]]))),
              .op (.mk (.to q58) .no (.e (.call n_hier_Table_Field [r52, r54, r57]))),
              .op (.mk (.to q48) .no (.n (.mv r58))),
              .op (.mk (.to q59) .no (.n (.ext r48 0))),
              .op (.mk (.to q60) .no (.n (.ext r48 1))),
              .op (.mk (.to q61) .no (.n (.ext r48 2))),
              .op (.mk (.to q9) .no (.n (.mv r59))),
              .op (.mk .no .no (.e (.st 2 r10 r60))),
              .op (.mk (.to q11) .no (.n (.mv r61)))])
             (.seq (.ops [.mk .ps .no (.n (.not r11)),
               .mk .ps (.on (.s 0) false) (.n (.ldn 2 r10)),
               .mk .ps (.on (.s 1) false) (.n (.faddr 0 r8)),
               .mk .ps (.on (.s 2) false) (.n (.faddr 1 (.s 0))),
               .mk .ps (.on (.s 3) false) (.n (.ldn 2 (.s 0))),
               .mk .ps (.on (.s 4) false) (.n (.eq (.agg [.str, .bool]) true (.s 3) (.s 0))),
               .mk (.to q70) .no (.n (.pick (.s 5) (.c (.bool true)) (.s 0)))])
              (.cond r70 (.seq (.ops [.mk (.to q4) .no (.n (.mv (.c (.bool false))))])
                .ret)
               .skip)))))
          (.ops [.mk .ps .no (.n (.bin .add r44 (.c (.int .i64 (.ofNat 1) 0)))),
           .mk (.to q44) .no (.n (.mv (.s 0)))])))))))
    (.seq (.seq (.ops [.mk .ps .no (.n (.faddr 4 r3)),
       .mk (.to q73) .no (.n (.ld1 (.s 0))),
       .mk (.to q74) .no (.n (.lenL r73)),
       .mk (.to q75) .no (.n (.mv (.c (.int .i64 (.ofNat 0) 0))))])
      (.block 4 (.loop (.seq (.ops [.mk (.to q76) .no (.n (.bin .lss r75 r74))])
         (.seq (.cond r76 .skip
           (.exit 4))
          (.seq (.block 5 (.seq (.ops [.mk .ps .no (.n (.iaddr 6 r73 r75)),
              .mk .ps .no (.n (.ldn 6 (.s 0))),
              .mk (.to q13) .no (.a (.alloc 6 [[(.str 0 0), (.bool false), .nils, (.str 0 0), (.bool false), (.str 0 0)]])),
              .mk .no .no (.e (.st 6 r13 (.s 0)))])
             (.seq (.ops [.mk .ps .no (.n (.ldn 6 r13)),
               .mk .ps .no (.e (.call n_link_Image_Find [r0, (.s 0)])),
               .mk .ps .no (.n (.ext (.s 0) 0)),
               .mk .ps .no (.n (.ext (.s 1) 1)),
               .mk (.to q15) .no (.n (.mv (.s 0)))])
              (.seq (.ops [.mk (.to q86) .no (.n (.not r15))])
               (.cond r86 (.seq (.ops [.mk (.to q4) .no (.n (.mv (.c (.bool false))))])
                 .ret)
                .skip)))))
           (.ops [.mk .ps .no (.n (.bin .add r75 (.c (.int .i64 (.ofNat 1) 0)))),
            .mk (.to q75) .no (.n (.mv (.s 0)))])))))))
     (.seq (.ops [.mk (.to q4) .no (.n (.mv (.c (.bool true))))])
      .ret))))))
 [.tmp q4] .no 0
/- (*kiln/hier.Table).Face -/
def af_hier_Table_Face : AF := .mk 2 (.seq (.ops [.mk (.to q4) .no (.a (.alloc 4 [[(.str 0 0), (.str 0 0), .nils, .nils]])),
  .mk (.to q5) .no (.n (.mv (.c (.bool false))))])
 (.seq (.seq (.ops [.mk (.to q9) .no (.n (.eq (.one .ptr) false r0 (.c .nilp)))])
   (.cond r9 (.seq (.ops [.mk .ps .no (.n (.build [(.str 0 0), (.str 0 0), .nils, .nils] [])),
      .mk .no .no (.e (.st 4 r4 (.s 0))),
      .mk (.to q5) .no (.n (.mv (.c (.bool false))))])
     .ret)
    .skip))
  (.seq (.ops [.mk .ps .no (.n (.nilck r0)),
    .mk .ps .no (.n (.faddr 1 (.s 0))),
    .mk .ps .no (.n (.ld1 (.s 0))),
    .mk .no .no (.e (.mapupd .str (.s 0) r1 (.c (.bool true))))])
   (.seq (.ops [.mk .ps .no (.n (.nilck r0)),
     .mk .ps .no (.n (.faddr 0 (.s 0))),
     .mk .ps .no (.n (.ld1 (.s 0))),
     .mk .ps .no (.n (.look .str true (.agg [(.str 0 0), (.str 0 0), .nils, .nils]) (.s 0) r1)),
     .mk .ps .no (.n (.ext (.s 0) 0)),
     .mk .ps .no (.n (.ext (.s 1) 1)),
     .mk (.to q6) .no (.a (.alloc 4 [[(.str 0 0), (.str 0 0), .nils, .nils]])),
     .mk .no .no (.e (.st 4 r6 (.s 1))),
     .mk (.to q7) .no (.n (.mv (.s 0)))])
    (.seq (.ops [.mk .ps .no (.n (.ldn 4 r6)),
      .mk .no .no (.e (.st 4 r4 (.s 0))),
      .mk (.to q5) .no (.n (.mv r7))])
     .ret)))))
 [.celln q4 4, .tmp q5] .no 0
/- (*kiln/hier.Table).Field -/
def af_hier_Table_Field : AF := .mk 3 (.seq (.ops [.mk (.to q6) .no (.n (.mv (.c (.str 0 0)))),
  .mk (.to q7) .no (.a (.alloc 2 [[(.str 0 0), (.bool false)]])),
  .mk (.to q8) .no (.n (.mv (.c (.bool false))))])
 (.seq (.ops [.mk .ps .no (.e (.call n_hier_Table_Above [r0, r1])),
   .mk .ps .no (.n (.ext (.s 0) 0)),
   .mk .ps .no (.n (.ext (.s 1) 1)),
   .mk (.to q9) .no (.n (.mv (.s 1)))])
  (.seq (.seq (.ops [.mk (.to q23) .no (.n (.mv r9)),
     .mk (.to q24) .no (.n (.lenL r23)),
     .mk (.to q25) .no (.n (.mv (.c (.int .i64 (.ofNat 0) 0))))])
    (.block 0 (.loop (.seq (.ops [.mk (.to q26) .no (.n (.bin .lss r25 r24))])
       (.seq (.cond r26 .skip
         (.exit 0))
        (.seq (.block 1 (.seq (.ops [.mk .ps .no (.n (.iaddr 1 r23 r25)),
            .mk .ps .no (.n (.ld1 (.s 0))),
            .mk (.to q12) .no (.n (.mv (.s 0)))])
           (.seq (.ops [.mk .ps .no (.e (.call n_hier_Table_Face [r0, r12])),
             .mk .ps .no (.n (.ext (.s 0) 0)),
             .mk .ps .no (.n (.ext (.s 1) 1)),
             .mk (.to q13) .no (.a (.alloc 4 [[(.str 0 0), (.str 0 0), .nils, .nils]])),
             .mk .no .no (.e (.st 4 r13 (.s 1)))])
            (.seq (.ops [.mk .ps .no (.n (.ldn 4 r13)),
              .mk .ps .no (.e (.call n_face_Face_Field [(.s 0), r2])),
              .mk .ps .no (.n (.ext (.s 0) 0)),
              .mk .ps .no (.n (.ext (.s 1) 1)),
              .mk (.to q15) .no (.a (.alloc 2 [[(.str 0 0), (.bool false)]])),
              .mk .no .no (.e (.st 2 r15 (.s 1))),
              .mk (.to q16) .no (.n (.mv (.s 0)))])
             (.seq (.ops [.mk (.to q41) .no (.n (.mv r16))])
              (.cond r41 (.seq (.reg [.op (.mk (.to q42) .no (.n (.mv r12))),
                 .op (.mk (.to q43) .no (.n (.ldn 2 r15))),
                 .op (.mk (.to q6) .no (.n (.mv r42))),
                 .op (.mk .no .no (.e (.st 2 r7 r43))),
                 .op (.mk (.to q8) .no (.n (.mv (.c (.bool true)))))])
                .ret)
               .skip))))))
         (.ops [.mk .ps .no (.n (.bin .add r25 (.c (.int .i64 (.ofNat 1) 0)))),
          .mk (.to q25) .no (.n (.mv (.s 0)))])))))))
   (.seq (.ops [.mk .ps .no (.n (.build [(.str 0 0), (.bool false)] [])),
     .mk (.to q6) .no (.n (.mv (.c (.str 0 0)))),
     .mk .no .no (.e (.st 2 r7 (.s 0))),
     .mk (.to q8) .no (.n (.mv (.c (.bool false))))])
    .ret))))
 [.tmp q6, .celln q7 2, .tmp q8] .no 0
/- (kiln/face.Face).Method -/
def af_face_Face_Method : AF := .mk 2 (.seq (.ops [.mk (.to q2) .no (.a (.box r0)),
  .mk (.to q4) .no (.a (.alloc 5 [[(.str 0 0), (.bool false), .nils, (.str 0 0), (.bool false)]])),
  .mk (.to q5) .no (.n (.mv (.c (.bool false))))])
 (.seq (.seq (.ops [.mk .ps .no (.n (.faddr 3 r2)),
    .mk (.to q9) .no (.n (.ld1 (.s 0))),
    .mk (.to q10) .no (.n (.lenL r9)),
    .mk (.to q11) .no (.n (.mv (.c (.int .i64 (.ofNat 0) 0))))])
   (.block 0 (.loop (.seq (.ops [.mk (.to q12) .no (.n (.bin .lss r11 r10))])
      (.seq (.cond r12 .skip
        (.exit 0))
       (.seq (.block 1 (.seq (.ops [.mk .ps .no (.n (.iaddr 5 r9 r11)),
           .mk .ps .no (.n (.ldn 5 (.s 0))),
           .mk (.to q7) .no (.a (.alloc 5 [[(.str 0 0), (.bool false), .nils, (.str 0 0), (.bool false)]])),
           .mk .no .no (.e (.st 5 r7 (.s 0)))])
          (.seq (.ops [.mk .ps .no (.n (.faddr 0 r7)),
            .mk .ps .no (.n (.ld1 (.s 0))),
            .mk (.to q18) .no (.n (.eq (.one .str) false (.s 0) r1))])
           (.cond r18 (.seq (.ops [.mk .ps .no (.n (.ldn 5 r7)),
              .mk .no .no (.e (.st 5 r4 (.s 0))),
              .mk (.to q5) .no (.n (.mv (.c (.bool true))))])
             .ret)
            .skip))))
        (.ops [.mk .ps .no (.n (.bin .add r11 (.c (.int .i64 (.ofNat 1) 0)))),
         .mk (.to q11) .no (.n (.mv (.s 0)))])))))))
  (.seq (.ops [.mk .ps .no (.n (.build [(.str 0 0), (.bool false), .nils, (.str 0 0), (.bool false)] [])),
    .mk .no .no (.e (.st 5 r4 (.s 0))),
    .mk (.to q5) .no (.n (.mv (.c (.bool false))))])
   .ret)))
 [.celln q4 5, .tmp q5] .no 0
/- (kiln/face.Sig).Same -/
def af_face_Sig_Same : AF := .mk 2 (.seq (.ops [.mk (.to q2) .no (.a (.box r0)),
  .mk (.to q3) .no (.a (.box r1)),
  .mk (.to q4) .no (.n (.mv (.c (.bool false))))])
 (.seq (.ops [.mk .ps .no (.n (.faddr 0 r2)),
   .mk .ps .no (.n (.ld1 (.s 0))),
   .mk .ps .no (.n (.faddr 0 r3)),
   .mk .ps .no (.n (.ld1 (.s 0))),
   .mk .ps .no (.n (.eq (.one .str) false (.s 2) (.s 0))),
   .mk .ps (.on (.s 0) true) (.n (.faddr 1 r2)),
   .mk .ps (.on (.s 1) true) (.n (.ld1 (.s 0))),
   .mk .ps (.on (.s 2) true) (.n (.faddr 1 r3)),
   .mk .ps (.on (.s 3) true) (.n (.ld1 (.s 0))),
   .mk .ps (.on (.s 4) true) (.n (.eq (.one .bool) false (.s 2) (.s 0))),
   .mk .ps .no (.n (.pick (.s 5) (.s 0) (.c (.bool false)))),
   .mk .ps (.on (.s 0) true) (.n (.faddr 3 r2)),
   .mk .ps (.on (.s 1) true) (.n (.ldn 2 (.s 0))),
   .mk .ps (.on (.s 2) true) (.n (.faddr 3 r3)),
   .mk .ps (.on (.s 3) true) (.n (.ldn 2 (.s 0))),
   .mk .ps (.on (.s 4) true) (.n (.eq (.agg [.str, .bool]) false (.s 2) (.s 0))),
   .mk .ps .no (.n (.pick (.s 5) (.s 0) (.c (.bool false)))),
   .mk .ps (.on (.s 0) true) (.n (.faddr 2 r2)),
   .mk .ps (.on (.s 1) true) (.n (.ld1 (.s 0))),
   .mk .ps (.on (.s 2) true) (.n (.faddr 2 r3)),
   .mk .ps (.on (.s 3) true) (.n (.ld1 (.s 0))),
   .mk .ps (.on (.s 4) true) (.e (.call n_slices_Equal_ast_Type_ast_Type [(.s 2), (.s 0)])),
   .mk .ps .no (.n (.pick (.s 5) (.s 0) (.c (.bool false)))),
   .mk (.to q4) .no (.n (.mv (.s 0)))])
  .ret))
 [.tmp q4] .no 0
/- slices.Contains[[]string,string] -/
def af_slices_Contains_string_string : AF := .mk 2 (.seq (.ops [.mk (.to q4) .no (.n (.mv (.c (.bool false))))])
 (.seq (.ops [.mk .ps .no (.e (.call n_slices_Index_string_string [r0, r1])),
   .mk .ps .no (.n (.bin .geq (.s 0) (.c (.int .i64 (.ofNat 0) 0)))),
   .mk (.to q4) .no (.n (.mv (.s 0)))])
  .ret))
 [.tmp q4] .no 0
/- (*kiln/hier.Table).Known -/
def af_hier_Table_Known : AF := .mk 2 (.seq (.ops [.mk (.to q4) .no (.n (.mv (.c (.bool false))))])
 (.seq (.seq (.ops [.mk (.to q9) .no (.n (.mv r1)),
    .mk (.to q10) .no (.n (.lenL r9)),
    .mk (.to q11) .no (.n (.mv (.c (.int .i64 (.ofNat 0) 0))))])
   (.block 0 (.loop (.seq (.ops [.mk (.to q12) .no (.n (.bin .lss r11 r10))])
      (.seq (.cond r12 .skip
        (.exit 0))
       (.seq (.block 1 (.seq (.ops [.mk .ps .no (.n (.iaddr 2 r9 r11)),
           .mk .ps .no (.n (.ldn 2 (.s 0))),
           .mk (.to q6) .no (.a (.alloc 2 [[(.str 0 0), (.bool false)]])),
           .mk .no .no (.e (.st 2 r6 (.s 0)))])
          (.seq (.seq (.ops [.mk .ps .no (.n (.ldn 2 r6)),
             .mk .ps .no (.e (.call n_face_Good [(.s 0)])),
             .mk (.to q17) .no (.n (.not (.s 0)))])
            (.cond r17 (.seq (.ops [.mk (.to q4) .no (.n (.mv (.c (.bool false))))])
              .ret)
             .skip))
           (.seq (.ops [.mk .ps .no (.n (.faddr 0 r6)),
             .mk .ps .no (.n (.ld1 (.s 0))),
             .mk .ps .no (.e (.call n_ast_Of [(.s 0)])),
             .mk (.to q21) .no (.e (.call n_ast_Type_Class [(.s 0)]))])
            (.cond r21 (.seq (.ops [.mk .ps .no (.n (.faddr 0 r6)),
               .mk .ps .no (.n (.ld1 (.s 0))),
               .mk .ps .no (.e (.call n_hier_Table_Face [r0, (.s 0)])),
               .mk .ps .no (.n (.ext (.s 0) 0)),
               .mk .ps .no (.n (.ext (.s 1) 1)),
               .mk .ps .no (.a (.alloc 4 [[(.str 0 0), (.str 0 0), .nils, .nils]])),
               .mk .no .no (.e (.st 4 (.s 0) (.s 2))),
               .mk (.to q8) .no (.n (.mv (.s 1)))])
              (.seq (.ops [.mk (.to q30) .no (.n (.not r8))])
               (.cond r30 (.seq (.ops [.mk (.to q4) .no (.n (.mv (.c (.bool false))))])
                 .ret)
                .skip)))
             .skip)))))
        (.ops [.mk .ps .no (.n (.bin .add r11 (.c (.int .i64 (.ofNat 1) 0)))),
         .mk (.to q11) .no (.n (.mv (.s 0)))])))))))
  (.seq (.ops [.mk (.to q4) .no (.n (.mv (.c (.bool true))))])
   .ret)))
 [.tmp q4] .no 0
/- (*kiln/verify.checker).run -/
def af_verify_checker_run : AF := .mk 1 (.seq (.ops [.mk (.to q2) .no (.n (.mv (.c (.int .i64 (.ofNat 0) 0))))])
 (.seq (.ops [.mk .ps .no (.n (.nilck r0)),
   .mk .ps .no (.n (.faddr 11 (.s 0))),
   .mk .ps .no (.n (.faddr 0 (.s 0))),
   .mk .ps .no (.n (.ld1 (.s 0))),
   .mk .ps .no (.a (.mkslice 2 24 [(.str 0 0), (.bool false)] (.s 0) (.s 0))),
   .mk .ps .no (.n (.build [.nils, .nils] [(0, 1, (.s 0))])),
   .mk (.to q3) .no (.a (.alloc 2 [[.nils, .nils]])),
   .mk .no .no (.e (.st 2 r3 (.s 0)))])
  (.seq (.ops [.mk (.to q4) .no (.n (.mv (.c (.int .i64 (.ofNat 0) 0))))])
   (.seq (.seq (.ops [.mk .ps .no (.n (.nilck r0)),
      .mk .ps .no (.n (.faddr 14 (.s 0))),
      .mk .ps .no (.n (.faddr 1 (.s 0))),
      .mk .ps .no (.n (.ld1 (.s 0))),
      .mk (.to q20) .no (.n (.not (.s 0)))])
     (.cond r20 (.seq (.reg [.op (.mk (.to q21) .no (.n (.faddr 0 r3))),
        .op (.mk (.to q22) .no (.n (.ld1 r21))),
        .op (.mk (.to q23) .no (.n (.mv r0))),
        .op (.mk (.to q24) .no (.n (.nilck r23))),
        .op (.mk (.to q25) .no (.n (.faddr 1 r24))),
        .op (.mk (.to q26) .no (.n (.faddr 0 r25))),
        .op (.mk (.to q27) .no (.n (.faddr 0 r26))),
        .op (.mk (.to q28) .no (.n (.ld1 r27))),
        .op (.mk (.to q29) .no (.e (.call n_ast_Of [r28]))),
        .re q22 .no (.ld1 r21),
        .op (.mk (.to q30) .no (.n (.iaddr 2 r22 (.c (.int .i64 (.ofNat 0) 0))))),
        .op (.mk .no .no (.e (.st 2 r30 r29)))])
       (.ops [.mk (.to q4) .no (.n (.mv (.c (.int .i64 (.ofNat 1) 0))))]))
      .skip))
    (.seq (.reg [.op (.mk (.to q31) .no (.n (.faddr 0 r3))),
      .op (.mk (.to q32) .no (.n (.ld1 r31))),
      .op (.mk (.to q33) .no (.n (.mv r4))),
      .op (.mk (.to q34) .no (.n (.slc 2 r32 (some r33) none none))),
      .op (.mk (.to q35) .no (.n (.mv r0))),
      .op (.mk (.to q36) .no (.n (.nilck r35))),
      .op (.mk (.to q37) .no (.n (.faddr 14 r36))),
      .op (.mk (.to q38) .no (.n (.faddr 2 r37))),
      .op (.mk (.to q39) .no (.n (.ld1 r38))),
      .op (.mk (.to q40) .no (.e (.copy 2 r34 r39)))])
     (.seq (.ops [.mk .ps .no (.n (.nilck r0)),
       .mk .ps .no (.n (.faddr 11 (.s 0))),
       .mk .ps .no (.n (.faddr 2 (.s 0))),
       .mk .ps .no (.n (.ld1 (.s 0))),
       .mk .ps .no (.n (.lenL (.s 0))),
       .mk .ps .no (.a (.mkslice 1 8 [.nilp] (.s 0) (.s 0))),
       .mk .ps .no (.n (.nilck r0)),
       .mk .ps .no (.n (.faddr 19 (.s 0))),
       .mk .no .no (.e (.st 1 (.s 0) (.s 2)))])
      (.seq (.ops [.mk .ps .no (.n (.ldn 2 r3)),
        .mk .ps .no (.e (.call n_verify_checker_flow [r0, (.c (.int .i64 (.ofNat 0) 0)), (.s 0)]))])
       (.seq (.block 0 (.loop (.seq (.seq (.ops [.mk .ps .no (.n (.nilck r0)),
             .mk .ps .no (.n (.faddr 20 (.s 0))),
             .mk .ps .no (.n (.ld1 (.s 0))),
             .mk .ps .no (.n (.lenL (.s 0))),
             .mk (.to q59) .no (.n (.bin .gtr (.s 0) (.c (.int .i64 (.ofNat 0) 0))))])
            (.cond r59 .skip
             (.exit 0)))
           (.block 1 (.seq (.reg [.op (.mk (.to q60) .no (.n (.mv r0))),
              .op (.mk (.to q61) .no (.n (.nilck r60))),
              .op (.mk (.to q62) .no (.n (.faddr 20 r61))),
              .op (.mk (.to q63) .no (.n (.ld1 r62))),
              .op (.mk (.to q64) .no (.n (.mv r0))),
              .op (.mk (.to q65) .no (.n (.nilck r64))),
              .op (.mk (.to q66) .no (.n (.faddr 20 r65))),
              .op (.mk (.to q67) .no (.n (.ld1 r66))),
              .op (.mk (.to q68) .no (.n (.lenL r67))),
              .op (.mk (.to q69) .no (.n (.bin .sub r68 (.c (.int .i64 (.ofNat 1) 0))))),
              .op (.mk (.to q70) .no (.n (.iaddr 1 r63 r69))),
              .op (.mk (.to q71) .no (.n (.ld1 r70))),
              .op (.mk (.to q5) .no (.n (.mv r71)))])
             (.seq (.reg [.op (.mk (.to q72) .no (.n (.mv r0))),
               .op (.mk (.to q73) .no (.n (.mv r0))),
               .op (.mk (.to q74) .no (.n (.nilck r73))),
               .op (.mk (.to q75) .no (.n (.faddr 20 r74))),
               .op (.mk (.to q76) .no (.n (.ld1 r75))),
               .op (.mk (.to q77) .no (.n (.mv r0))),
               .op (.mk (.to q78) .no (.n (.nilck r77))),
               .op (.mk (.to q79) .no (.n (.faddr 20 r78))),
               .op (.mk (.to q80) .no (.n (.ld1 r79))),
               .op (.mk (.to q81) .no (.n (.lenL r80))),
               .op (.mk (.to q82) .no (.n (.bin .sub r81 (.c (.int .i64 (.ofNat 1) 0))))),
               .op (.mk (.to q83) .no (.n (.slc 1 r76 none (some r82) none))),
               .op (.mk (.to q84) .no (.n (.nilck r72))),
               .op (.mk (.to q85) .no (.n (.faddr 20 r84))),
               .op (.mk .no .no (.e (.st 1 r85 r83)))])
              (.seq (.ops [.mk .ps .no (.n (.nilck r0)),
                .mk .ps .no (.n (.faddr 11 (.s 0))),
                .mk .ps .no (.n (.faddr 2 (.s 0))),
                .mk .ps .no (.n (.ld1 (.s 0))),
                .mk .ps .no (.n (.iaddr 2 (.s 0) r5)),
                .mk .ps .no (.n (.ldn 2 (.s 0))),
                .mk (.to q6) .no (.a (.alloc 2 [[(.int .i64 (.ofNat 0) 0), (.int .i64 (.ofNat 0) 0)]])),
                .mk .no .no (.e (.st 2 r6 (.s 0)))])
               (.seq (.ops [.mk .ps .no (.n (.nilck r0)),
                 .mk .ps .no (.n (.faddr 19 (.s 0))),
                 .mk .ps .no (.n (.ld1 (.s 0))),
                 .mk .ps .no (.n (.iaddr 1 (.s 0) r5)),
                 .mk .ps .no (.n (.ld1 (.s 0))),
                 .mk .ps .no (.n (.nilck (.s 0))),
                 .mk .ps .no (.n (.ldn 2 (.s 0))),
                 .mk .ps .no (.e (.call n_verify_state_clone [(.s 0)])),
                 .mk (.to q7) .no (.a (.alloc 2 [[.nils, .nils]])),
                 .mk .no .no (.e (.st 2 r7 (.s 0)))])
                (.seq (.seq (.ops [.mk .ps .no (.n (.ldn 2 r6)),
                   .mk .ps .no (.e (.call n_verify_checker_step [r0, r7, (.s 0)])),
                   .mk (.to q107) .no (.n (.not (.s 0)))])
                  (.cond r107 (.seq (.ops [.mk (.to q2) .no (.n (.mv r5))])
                    .ret)
                   .skip))
                 (.seq (.seq (.ops [.mk .ps .no (.n (.faddr 0 r6)),
                    .mk .ps .no (.n (.ld1 (.s 0))),
                    .mk .ps .no (.n (.eq (.one .int) false (.s 0) (.c (.int .i64 (.ofNat 27) 0)))),
                    .mk .ps (.on (.s 0) false) (.n (.faddr 0 r6)),
                    .mk .ps (.on (.s 1) false) (.n (.ld1 (.s 0))),
                    .mk .ps (.on (.s 2) false) (.n (.eq (.one .int) false (.s 0) (.c (.int .i64 (.ofNat 28) 0)))),
                    .mk .ps .no (.n (.pick (.s 3) (.c (.bool true)) (.s 0))),
                    .mk .ps (.on (.s 0) true) (.n (.mv r0)),
                    .mk .ps (.on (.s 1) true) (.n (.faddr 1 r6)),
                    .mk .ps (.on (.s 2) true) (.n (.ld1 (.s 0))),
                    .mk .ps (.on (.s 3) true) (.n (.ldn 2 r7)),
                    .mk .ps (.on (.s 4) true) (.e (.call n_verify_checker_flow [(.s 3), (.s 1), (.s 0)])),
                    .mk .ps (.on (.s 5) true) (.n (.not (.s 0))),
                    .mk (.to q124) .no (.n (.pick (.s 6) (.s 0) (.c (.bool false))))])
                   (.cond r124 (.seq (.ops [.mk .ps .no (.n (.faddr 1 r6)),
                      .mk .ps .no (.n (.ld1 (.s 0))),
                      .mk .ps .no (.e (.call n_verify_checker_where [r0, r5, (.s 0)])),
                      .mk (.to q2) .no (.n (.mv (.s 0)))])
                     .ret)
                    .skip))
                  (.seq (.ops [.mk .ps .no (.n (.faddr 0 r6)),
                    .mk .ps .no (.n (.ld1 (.s 0))),
                    .mk .ps .no (.e (.call n_op_Code_Ends [(.s 0)])),
                    .mk .ps .no (.n (.not (.s 0))),
                    .mk .ps (.on (.s 0) true) (.n (.mv r0)),
                    .mk .ps (.on (.s 1) true) (.n (.mv r5)),
                    .mk .ps (.on (.s 2) true) (.n (.bin .add (.s 0) (.c (.int .i64 (.ofNat 1) 0)))),
                    .mk .ps (.on (.s 3) true) (.n (.ldn 2 r7)),
                    .mk .ps (.on (.s 4) true) (.e (.call n_verify_checker_flow [(.s 3), (.s 1), (.s 0)])),
                    .mk .ps (.on (.s 5) true) (.n (.not (.s 0))),
                    .mk (.to q141) .no (.n (.pick (.s 6) (.s 0) (.c (.bool false))))])
                   (.cond r141 (.seq (.ops [.mk .ps .no (.n (.bin .add r5 (.c (.int .i64 (.ofNat 1) 0)))),
                      .mk .ps .no (.e (.call n_verify_checker_where [r0, r5, (.s 0)])),
                      .mk (.to q2) .no (.n (.mv (.s 0)))])
                     .ret)
                    .skip))))))))))))
        (.seq (.ops [.mk (.to q2) .no (.n (.mv (.c (.int .i64 (.negSucc 0) 0))))])
         .ret)))))))))
 [.tmp q2] .no 0
/- kiln/ast.Of -/
def af_ast_Of : AF := .mk 1 (.seq (.ops [.mk (.to q2) .no (.a (.alloc 2 [[(.str 0 0), (.bool false)]]))])
 (.seq (.ops [.mk .ps .no (.n (.build [(.str 0 0), (.bool false)] [(0, 1, r0)])),
   .mk .no .no (.e (.st 2 r2 (.s 0)))])
  .ret))
 [.celln q2 2] .no 0
/- (*kiln/hier.Table).Method -/
def af_hier_Table_Method : AF := .mk 4 (.seq (.ops [.mk (.to q8) .no (.n (.mv (.c (.str 0 0)))),
  .mk (.to q9) .no (.a (.alloc 5 [[(.str 0 0), (.bool false), .nils, (.str 0 0), (.bool false)]])),
  .mk (.to q10) .no (.n (.mv (.c (.bool false))))])
 (.seq (.ops [.mk .ps .no (.e (.call n_hier_Table_Above [r0, r1])),
   .mk .ps .no (.n (.ext (.s 0) 0)),
   .mk .ps .no (.n (.ext (.s 1) 1)),
   .mk (.to q11) .no (.n (.mv (.s 1)))])
  (.seq (.seq (.ops [.mk (.to q25) .no (.n (.mv r11)),
     .mk (.to q26) .no (.n (.lenL r25)),
     .mk (.to q27) .no (.n (.mv (.c (.int .i64 (.ofNat 0) 0))))])
    (.block 0 (.loop (.seq (.ops [.mk (.to q28) .no (.n (.bin .lss r27 r26))])
       (.seq (.cond r28 .skip
         (.exit 0))
        (.seq (.block 1 (.seq (.ops [.mk .ps .no (.n (.iaddr 1 r25 r27)),
            .mk .ps .no (.n (.ld1 (.s 0))),
            .mk (.to q14) .no (.n (.mv (.s 0)))])
           (.seq (.ops [.mk .ps .no (.e (.call n_hier_Table_Face [r0, r14])),
             .mk .ps .no (.n (.ext (.s 0) 0)),
             .mk .ps .no (.n (.ext (.s 1) 1)),
             .mk (.to q15) .no (.a (.alloc 4 [[(.str 0 0), (.str 0 0), .nils, .nils]])),
             .mk .no .no (.e (.st 4 r15 (.s 1)))])
            (.seq (.ops [.mk .ps .no (.n (.ldn 4 r15)),
              .mk .ps .no (.e (.call n_face_Face_Method [(.s 0), r2])),
              .mk .ps .no (.n (.ext (.s 0) 0)),
              .mk .ps .no (.n (.ext (.s 1) 1)),
              .mk (.to q17) .no (.a (.alloc 5 [[(.str 0 0), (.bool false), .nils, (.str 0 0), (.bool false)]])),
              .mk .no .no (.e (.st 5 r17 (.s 1))),
              .mk (.to q18) .no (.n (.mv (.s 0)))])
             (.seq (.ops [.mk .ps (.on r18 true) (.n (.faddr 1 r17)),
               .mk .ps (.on r18 true) (.n (.ld1 (.s 0))),
               .mk .ps (.on r18 true) (.n (.mv r3)),
               .mk .ps (.on r18 true) (.n (.eq (.one .bool) false (.s 1) (.s 0))),
               .mk (.to q49) .no (.n (.pick r18 (.s 0) (.c (.bool false))))])
              (.cond r49 (.seq (.reg [.op (.mk (.to q50) .no (.n (.mv r14))),
                 .op (.mk (.to q51) .no (.n (.ldn 5 r17))),
                 .op (.mk (.to q8) .no (.n (.mv r50))),
                 .op (.mk .no .no (.e (.st 5 r9 r51))),
                 .op (.mk (.to q10) .no (.n (.mv (.c (.bool true)))))])
                .ret)
               .skip))))))
         (.ops [.mk .ps .no (.n (.bin .add r27 (.c (.int .i64 (.ofNat 1) 0)))),
          .mk (.to q27) .no (.n (.mv (.s 0)))])))))))
   (.seq (.ops [.mk .ps .no (.n (.build [(.str 0 0), (.bool false), .nils, (.str 0 0), (.bool false)] [])),
     .mk (.to q8) .no (.n (.mv (.c (.str 0 0)))),
     .mk .no .no (.e (.st 5 r9 (.s 0))),
     .mk (.to q10) .no (.n (.mv (.c (.bool false))))])
    .ret))))
 [.tmp q8, .celln q9 5, .tmp q10] .no 0
/- (kiln/op.Code).Known -/
def af_op_Code_Known : AF := .mk 1 (.seq (.ops [.mk (.to q2) .no (.n (.mv (.c (.bool false))))])
 (.seq (.ops [.mk .ps .no (.n (.bin .geq r0 (.c (.int .i64 (.ofNat 1) 0)))),
   .mk .ps (.on (.s 0) true) (.n (.mv r0)),
   .mk .ps (.on (.s 1) true) (.n (.bin .leq (.s 0) (.c (.int .i64 (.ofNat 32) 0)))),
   .mk .ps .no (.n (.pick (.s 2) (.s 0) (.c (.bool false)))),
   .mk (.to q2) .no (.n (.mv (.s 0)))])
  .ret))
 [.tmp q2] .no 0
/- (kiln/face.Face).Right -/
def af_face_Face_Right : AF := .mk 1 (.seq (.ops [.mk (.to q1) .no (.a (.box r0)),
  .mk (.to q2) .no (.n (.mv (.c (.bool false))))])
 (.seq (.seq (.ops [.mk .ps .no (.n (.faddr 0 r1)),
    .mk .ps .no (.n (.ld1 (.s 0))),
    .mk .ps .no (.e (.call n_ast_Of [(.s 0)])),
    .mk .ps .no (.e (.call n_ast_Type_Class [(.s 0)])),
    .mk .ps .no (.n (.not (.s 0))),
    .mk .ps (.on (.s 0) false) (.n (.faddr 1 r1)),
    .mk .ps (.on (.s 1) false) (.n (.ld1 (.s 0))),
    .mk .ps (.on (.s 2) false) (.n (.eq (.one .str) true (.s 0) (.c (.str 0 0)))),
    .mk .ps (.on (.s 3) false) (.n (.mv (.s 0))),
    .mk .ps (.on (.s 0) true) (.n (.faddr 1 r1)),
    .mk .ps (.on (.s 1) true) (.n (.ld1 (.s 0))),
    .mk .ps (.on (.s 2) true) (.e (.call n_ast_Of [(.s 0)])),
    .mk .ps (.on (.s 3) true) (.e (.call n_ast_Type_Class [(.s 0)])),
    .mk .ps (.on (.s 4) true) (.n (.not (.s 0))),
    .mk .ps (.on (.s 9) false) (.n (.pick (.s 5) (.s 0) (.c (.bool false)))),
    .mk .ps .no (.n (.pick (.s 10) (.c (.bool true)) (.s 0))),
    .mk .ps (.on (.s 0) false) (.n (.faddr 2 r1)),
    .mk .ps (.on (.s 1) false) (.n (.ld1 (.s 0))),
    .mk .ps (.on (.s 2) false) (.n (.lenL (.s 0))),
    .mk .ps (.on (.s 3) false) (.n (.bin .gtr (.s 0) (.c (.int .i64 (.ofNat 200) 0)))),
    .mk .ps .no (.n (.pick (.s 4) (.c (.bool true)) (.s 0))),
    .mk .ps (.on (.s 0) false) (.n (.faddr 3 r1)),
    .mk .ps (.on (.s 1) false) (.n (.ld1 (.s 0))),
    .mk .ps (.on (.s 2) false) (.n (.lenL (.s 0))),
    .mk .ps (.on (.s 3) false) (.n (.bin .gtr (.s 0) (.c (.int .i64 (.ofNat 200) 0)))),
    .mk .ps .no (.n (.pick (.s 4) (.c (.bool true)) (.s 0))),
    .mk .ps (.on (.s 0) false) (.n (.faddr 0 r1)),
    .mk .ps (.on (.s 1) false) (.n (.ld1 (.s 0))),
    .mk .ps (.on (.s 2) false) (.n (.lenS (.s 0))),
    .mk .ps (.on (.s 3) false) (.n (.bin .gtr (.s 0) (.c (.int .i64 (.ofNat 40) 0)))),
    .mk .ps .no (.n (.pick (.s 4) (.c (.bool true)) (.s 0))),
    .mk .ps (.on (.s 0) false) (.n (.faddr 1 r1)),
    .mk .ps (.on (.s 1) false) (.n (.ld1 (.s 0))),
    .mk .ps (.on (.s 2) false) (.n (.lenS (.s 0))),
    .mk .ps (.on (.s 3) false) (.n (.bin .gtr (.s 0) (.c (.int .i64 (.ofNat 40) 0)))),
    .mk (.to q48) .no (.n (.pick (.s 4) (.c (.bool true)) (.s 0)))])
   (.cond r48 (.seq (.ops [.mk (.to q2) .no (.n (.mv (.c (.bool false))))])
     .ret)
    .skip))
  (.seq (.ops [.mk (.to q3) .no (.n (.mv (.c (.str 0 0))))])
   (.seq (.seq (.ops [.mk .ps .no (.n (.faddr 2 r1)),
      .mk (.to q50) .no (.n (.ld1 (.s 0))),
      .mk (.to q51) .no (.n (.lenL r50)),
      .mk (.to q52) .no (.n (.mv (.c (.int .i64 (.ofNat 0) 0))))])
     (.block 0 (.loop (.seq (.ops [.mk (.to q53) .no (.n (.bin .lss r52 r51))])
        (.seq (.cond r53 .skip
          (.exit 0))
         (.seq (.block 1 (.seq (.ops [.mk .ps .no (.n (.iaddr 3 r50 r52)),
             .mk .ps .no (.n (.ldn 3 (.s 0))),
             .mk (.to q5) .no (.a (.alloc 3 [[(.str 0 0), (.str 0 0), (.bool false)]])),
             .mk .no .no (.e (.st 3 r5 (.s 0)))])
            (.seq (.seq (.ops [.mk .ps .no (.n (.faddr 0 r5)),
               .mk .ps .no (.n (.ld1 (.s 0))),
               .mk .ps .no (.n (.bin .leq (.s 0) r3)),
               .mk .ps (.on (.s 0) false) (.n (.faddr 0 r5)),
               .mk .ps (.on (.s 1) false) (.n (.ld1 (.s 0))),
               .mk .ps (.on (.s 2) false) (.n (.lenS (.s 0))),
               .mk .ps (.on (.s 3) false) (.n (.bin .gtr (.s 0) (.c (.int .i64 (.ofNat 40) 0)))),
               .mk .ps .no (.n (.pick (.s 4) (.c (.bool true)) (.s 0))),
               .mk .ps (.on (.s 0) false) (.n (.faddr 1 r5)),
               .mk .ps (.on (.s 1) false) (.n (.ldn 2 (.s 0))),
               .mk .ps (.on (.s 2) false) (.e (.call n_face_Good [(.s 0)])),
               .mk .ps (.on (.s 3) false) (.n (.not (.s 0))),
               .mk (.to q71) .no (.n (.pick (.s 4) (.c (.bool true)) (.s 0)))])
              (.cond r71 (.seq (.ops [.mk (.to q2) .no (.n (.mv (.c (.bool false))))])
                .ret)
               .skip))
             (.ops [.mk .ps .no (.n (.faddr 0 r5)),
              .mk .ps .no (.n (.ld1 (.s 0))),
              .mk (.to q3) .no (.n (.mv (.s 0)))]))))
          (.ops [.mk .ps .no (.n (.bin .add r52 (.c (.int .i64 (.ofNat 1) 0)))),
           .mk (.to q52) .no (.n (.mv (.s 0)))])))))))
    (.seq (.ops [.mk (.to q3) .no (.n (.mv (.c (.str 0 0))))])
     (.seq (.seq (.ops [.mk .ps .no (.n (.faddr 3 r1)),
        .mk (.to q76) .no (.n (.ld1 (.s 0))),
        .mk (.to q77) .no (.n (.lenL r76)),
        .mk (.to q78) .no (.n (.mv (.c (.int .i64 (.ofNat 0) 0))))])
       (.block 2 (.loop (.seq (.ops [.mk (.to q79) .no (.n (.bin .lss r78 r77))])
          (.seq (.cond r79 .skip
            (.exit 2))
           (.seq (.block 3 (.seq (.ops [.mk .ps .no (.n (.iaddr 5 r76 r78)),
               .mk .ps .no (.n (.ldn 5 (.s 0))),
               .mk (.to q7) .no (.a (.alloc 5 [[(.str 0 0), (.bool false), .nils, (.str 0 0), (.bool false)]])),
               .mk .no .no (.e (.st 5 r7 (.s 0)))])
              (.seq (.seq (.ops [.mk .ps .no (.n (.faddr 0 r7)),
                 .mk .ps .no (.n (.ld1 (.s 0))),
                 .mk .ps .no (.n (.bin .leq (.s 0) r3)),
                 .mk .ps (.on (.s 0) false) (.n (.faddr 0 r7)),
                 .mk .ps (.on (.s 1) false) (.n (.ld1 (.s 0))),
                 .mk .ps (.on (.s 2) false) (.n (.lenS (.s 0))),
                 .mk .ps (.on (.s 3) false) (.n (.bin .gtr (.s 0) (.c (.int .i64 (.ofNat 40) 0)))),
                 .mk .ps .no (.n (.pick (.s 4) (.c (.bool true)) (.s 0))),
                 .mk .ps (.on (.s 0) false) (.n (.faddr 3 r7)),
                 .mk .ps (.on (.s 1) false) (.n (.ldn 2 (.s 0))),
                 .mk .ps (.on (.s 2) false) (.e (.call n_face_Good [(.s 0)])),
                 .mk .ps (.on (.s 3) false) (.n (.not (.s 0))),
                 .mk .ps .no (.n (.pick (.s 4) (.c (.bool true)) (.s 0))),
                 .mk .ps (.on (.s 0) false) (.n (.faddr 2 r7)),
                 .mk .ps (.on (.s 1) false) (.n (.ld1 (.s 0))),
                 .mk .ps (.on (.s 2) false) (.n (.lenL (.s 0))),
                 .mk .ps (.on (.s 3) false) (.n (.bin .gtr (.s 0) (.c (.int .i64 (.ofNat 200) 0)))),
                 .mk .ps .no (.n (.pick (.s 4) (.c (.bool true)) (.s 0))),
                 .mk .ps (.on (.s 0) false) (.n (.faddr 2 r7)),
                 .mk .ps (.on (.s 1) false) (.n (.ld1 (.s 0))),
                 .mk .ps (.on (.s 2) false) (.e (.call n_slices_ContainsFunc_ast_Type_ast_Type [(.s 0), (.c (.fn n_face_Face_Right_1 [] []))])),
                 .mk (.to q108) .no (.n (.pick (.s 3) (.c (.bool true)) (.s 0)))])
                (.cond r108 (.seq (.ops [.mk (.to q2) .no (.n (.mv (.c (.bool false))))])
                  .ret)
                 .skip))
               (.ops [.mk .ps .no (.n (.faddr 0 r7)),
                .mk .ps .no (.n (.ld1 (.s 0))),
                .mk (.to q3) .no (.n (.mv (.s 0)))]))))
            (.ops [.mk .ps .no (.n (.bin .add r78 (.c (.int .i64 (.ofNat 1) 0)))),
             .mk (.to q78) .no (.n (.mv (.s 0)))])))))))
      (.seq (.ops [.mk (.to q2) .no (.n (.mv (.c (.bool true))))])
       .ret)))))))
 [.tmp q2] .no 0
/- (kiln/class.Pool).right -/
def af_class_Pool_right : AF := .mk 1 (.seq (.ops [.mk (.to q1) .no (.a (.box r0)),
  .mk (.to q2) .no (.n (.mv (.c (.bool false))))])
 (.seq (.seq (.ops [.mk .ps .no (.n (.faddr 0 r1)),
    .mk .ps .no (.n (.ld1 (.s 0))),
    .mk .ps .no (.n (.lenL (.s 0))),
    .mk .ps .no (.n (.faddr 1 r1)),
    .mk .ps .no (.n (.ld1 (.s 0))),
    .mk .ps .no (.n (.lenL (.s 0))),
    .mk .ps .no (.n (.faddr 2 r1)),
    .mk .ps .no (.n (.ld1 (.s 0))),
    .mk .ps .no (.n (.lenL (.s 0))),
    .mk .ps .no (.n (.faddr 3 r1)),
    .mk .ps .no (.n (.ld1 (.s 0))),
    .mk .ps .no (.n (.lenL (.s 0))),
    .mk .ps .no (.n (.faddr 4 r1)),
    .mk .ps .no (.n (.ld1 (.s 0))),
    .mk .ps .no (.n (.lenL (.s 0))),
    .mk (.to q28) .no (.a (.bslice 1 5 [(.int .i64 (.ofNat 0) 0)] [(0, (.s 12)), (1, (.s 9)), (2, (.s 6)), (3, (.s 3)), (4, (.s 0))])),
    .mk (.to q29) .no (.n (.lenL r28)),
    .mk (.to q30) .no (.n (.mv (.c (.int .i64 (.ofNat 0) 0))))])
   (.block 0 (.loop (.seq (.ops [.mk (.to q31) .no (.n (.bin .lss r30 r29))])
      (.seq (.cond r31 .skip
        (.exit 0))
       (.seq (.block 1 (.seq (.ops [.mk .ps .no (.n (.iaddr 1 r28 r30)),
           .mk .ps .no (.n (.ld1 (.s 0))),
           .mk (.to q4) .no (.n (.mv (.s 0)))])
          (.seq (.ops [.mk (.to q35) .no (.n (.bin .gtr r4 (.c (.int .i64 (.ofNat 16384) 0))))])
           (.cond r35 (.seq (.ops [.mk (.to q2) .no (.n (.mv (.c (.bool false))))])
             .ret)
            .skip))))
        (.ops [.mk .ps .no (.n (.bin .add r30 (.c (.int .i64 (.ofNat 1) 0)))),
         .mk (.to q30) .no (.n (.mv (.s 0)))])))))))
  (.seq (.seq (.ops [.mk .ps .no (.n (.faddr 1 r1)),
     .mk (.to q38) .no (.n (.ld1 (.s 0))),
     .mk (.to q39) .no (.n (.lenL r38)),
     .mk (.to q40) .no (.n (.mv (.c (.int .i64 (.ofNat 0) 0))))])
    (.block 2 (.loop (.seq (.ops [.mk (.to q41) .no (.n (.bin .lss r40 r39))])
       (.seq (.cond r41 .skip
         (.exit 2))
        (.seq (.block 3 (.seq (.ops [.mk .ps .no (.n (.iaddr 1 r38 r40)),
            .mk .ps .no (.n (.ld1 (.s 0))),
            .mk (.to q6) .no (.n (.mv (.s 0)))])
           (.seq (.ops [.mk .ps .no (.e (.call n_class_class [r6])),
             .mk (.to q46) .no (.n (.not (.s 0)))])
            (.cond r46 (.seq (.ops [.mk (.to q2) .no (.n (.mv (.c (.bool false))))])
              .ret)
             .skip))))
         (.ops [.mk .ps .no (.n (.bin .add r40 (.c (.int .i64 (.ofNat 1) 0)))),
          .mk (.to q40) .no (.n (.mv (.s 0)))])))))))
   (.seq (.seq (.ops [.mk .ps .no (.n (.faddr 2 r1)),
      .mk (.to q49) .no (.n (.ld1 (.s 0))),
      .mk (.to q50) .no (.n (.lenL r49)),
      .mk (.to q51) .no (.n (.mv (.c (.int .i64 (.ofNat 0) 0))))])
     (.block 4 (.loop (.seq (.ops [.mk (.to q52) .no (.n (.bin .lss r51 r50))])
        (.seq (.cond r52 .skip
          (.exit 4))
         (.seq (.block 5 (.seq (.ops [.mk .ps .no (.n (.iaddr 2 r49 r51)),
             .mk .ps .no (.n (.ldn 2 (.s 0))),
             .mk (.to q8) .no (.a (.alloc 2 [[(.str 0 0), (.bool false)]])),
             .mk .no .no (.e (.st 2 r8 (.s 0)))])
            (.seq (.ops [.mk .ps .no (.n (.ldn 2 r8)),
              .mk .ps .no (.e (.call n_face_Good [(.s 0)])),
              .mk (.to q57) .no (.n (.not (.s 0)))])
             (.cond r57 (.seq (.ops [.mk (.to q2) .no (.n (.mv (.c (.bool false))))])
               .ret)
              .skip))))
          (.ops [.mk .ps .no (.n (.bin .add r51 (.c (.int .i64 (.ofNat 1) 0)))),
           .mk (.to q51) .no (.n (.mv (.s 0)))])))))))
    (.seq (.seq (.ops [.mk .ps .no (.n (.faddr 3 r1)),
       .mk (.to q60) .no (.n (.ld1 (.s 0))),
       .mk (.to q61) .no (.n (.lenL r60)),
       .mk (.to q62) .no (.n (.mv (.c (.int .i64 (.ofNat 0) 0))))])
      (.block 6 (.loop (.seq (.ops [.mk (.to q63) .no (.n (.bin .lss r62 r61))])
         (.seq (.cond r63 .skip
           (.exit 6))
          (.seq (.block 7 (.seq (.ops [.mk .ps .no (.n (.iaddr 4 r60 r62)),
              .mk .ps .no (.n (.ldn 4 (.s 0))),
              .mk (.to q10) .no (.a (.alloc 4 [[(.str 0 0), (.str 0 0), (.bool false), (.str 0 0)]])),
              .mk .no .no (.e (.st 4 r10 (.s 0)))])
             (.seq (.ops [.mk .ps .no (.n (.faddr 3 r10)),
               .mk .ps .no (.n (.ld1 (.s 0))),
               .mk .ps .no (.e (.call n_class_class [(.s 0)])),
               .mk .ps .no (.n (.not (.s 0))),
               .mk .ps (.on (.s 0) false) (.n (.faddr 0 r10)),
               .mk .ps (.on (.s 1) false) (.n (.faddr 0 (.s 0))),
               .mk .ps (.on (.s 2) false) (.n (.ld1 (.s 0))),
               .mk .ps (.on (.s 3) false) (.n (.eq (.one .str) false (.s 0) (.c (.str 0 0)))),
               .mk .ps .no (.n (.pick (.s 4) (.c (.bool true)) (.s 0))),
               .mk .ps (.on (.s 0) false) (.n (.faddr 0 r10)),
               .mk .ps (.on (.s 1) false) (.n (.faddr 0 (.s 0))),
               .mk .ps (.on (.s 2) false) (.n (.ld1 (.s 0))),
               .mk .ps (.on (.s 3) false) (.n (.lenS (.s 0))),
               .mk .ps (.on (.s 4) false) (.n (.bin .gtr (.s 0) (.c (.int .i64 (.ofNat 40) 0)))),
               .mk .ps .no (.n (.pick (.s 5) (.c (.bool true)) (.s 0))),
               .mk .ps (.on (.s 0) false) (.n (.faddr 0 r10)),
               .mk .ps (.on (.s 1) false) (.n (.faddr 1 (.s 0))),
               .mk .ps (.on (.s 2) false) (.n (.ldn 2 (.s 0))),
               .mk .ps (.on (.s 3) false) (.e (.call n_face_Good [(.s 0)])),
               .mk .ps (.on (.s 4) false) (.n (.not (.s 0))),
               .mk (.to q89) .no (.n (.pick (.s 5) (.c (.bool true)) (.s 0)))])
              (.cond r89 (.seq (.ops [.mk (.to q2) .no (.n (.mv (.c (.bool false))))])
                .ret)
               .skip))))
           (.ops [.mk .ps .no (.n (.bin .add r62 (.c (.int .i64 (.ofNat 1) 0)))),
            .mk (.to q62) .no (.n (.mv (.s 0)))])))))))
     (.seq (.seq (.ops [.mk .ps .no (.n (.faddr 4 r1)),
        .mk (.to q92) .no (.n (.ld1 (.s 0))),
        .mk (.to q93) .no (.n (.lenL r92)),
        .mk (.to q94) .no (.n (.mv (.c (.int .i64 (.ofNat 0) 0))))])
       (.block 8 (.loop (.seq (.ops [.mk (.to q95) .no (.n (.bin .lss r94 r93))])
          (.seq (.cond r95 .skip
            (.exit 8))
           (.seq (.block 9 (.seq (.ops [.mk .ps .no (.n (.iaddr 6 r92 r94)),
               .mk .ps .no (.n (.ldn 6 (.s 0))),
               .mk (.to q12) .no (.a (.alloc 6 [[(.str 0 0), (.bool false), .nils, (.str 0 0), (.bool false), (.str 0 0)]])),
               .mk .no .no (.e (.st 6 r12 (.s 0)))])
              (.seq (.ops [.mk .ps .no (.n (.faddr 5 r12)),
                .mk .ps .no (.n (.ld1 (.s 0))),
                .mk .ps .no (.e (.call n_class_class [(.s 0)])),
                .mk .ps .no (.n (.not (.s 0))),
                .mk .ps (.on (.s 0) false) (.n (.faddr 0 r12)),
                .mk .ps (.on (.s 1) false) (.n (.ldn 5 (.s 0))),
                .mk .ps (.on (.s 2) false) (.e (.call n_class_sig [(.s 0)])),
                .mk .ps (.on (.s 3) false) (.n (.not (.s 0))),
                .mk (.to q107) .no (.n (.pick (.s 4) (.c (.bool true)) (.s 0)))])
               (.cond r107 (.seq (.ops [.mk (.to q2) .no (.n (.mv (.c (.bool false))))])
                 .ret)
                .skip))))
            (.ops [.mk .ps .no (.n (.bin .add r94 (.c (.int .i64 (.ofNat 1) 0)))),
             .mk (.to q94) .no (.n (.mv (.s 0)))])))))))
      (.seq (.ops [.mk (.to q2) .no (.n (.mv (.c (.bool true))))])
       .ret)))))))
 [.tmp q2] .no 0
/- (kiln/op.Instr).Right -/
def af_op_Instr_Right : AF := .mk 2 (.seq (.ops [.mk (.to q2) .no (.a (.box r0)),
  .mk (.to q4) .no (.n (.mv (.c (.bool false))))])
 (.seq (.seq (.ops [.mk .ps .no (.n (.faddr 0 r2)),
    .mk .ps .no (.n (.ld1 (.s 0))),
    .mk .ps .no (.e (.call n_op_Code_Known [(.s 0)])),
    .mk (.to q9) .no (.n (.not (.s 0)))])
   (.cond r9 (.seq (.ops [.mk (.to q4) .no (.n (.mv (.c (.bool false))))])
     .ret)
    .skip))
  (.seq (.ops [.mk .ps .no (.n (.faddr 0 r2)),
    .mk .ps .no (.n (.ld1 (.s 0))),
    .mk .ps .no (.e (.call n_op_Code_Pool [(.s 0)])),
    .mk (.to q5) .no (.n (.mv (.s 0)))])
   (.seq (.seq (.ops [.mk (.to q14) .no (.n (.eq (.one .int) false r5 (.c (.int .i32 (.ofNat 0) 0))))])
     (.cond r14 (.seq (.ops [.mk .ps .no (.n (.faddr 1 r2)),
        .mk .ps .no (.n (.ld1 (.s 0))),
        .mk .ps .no (.n (.eq (.one .int) false (.s 0) (.c (.int .i64 (.ofNat 0) 0)))),
        .mk (.to q4) .no (.n (.mv (.s 0)))])
       .ret)
      .skip))
    (.seq (.reg [.op (.mk (.to q18) .no (.n (.faddr 1 r2))),
      .op (.mk (.to q19) .no (.n (.ld1 r18))),
      .op (.mk (.to q20) .no (.n (.bin .geq r19 (.c (.int .i64 (.ofNat 0) 0))))),
      .op (.mk (.to q21) .no (.n (.mv r20))),
      .op (.mk (.to q22) (.on r21 true) (.n (.faddr 1 r2))),
      .op (.mk (.to q23) (.on r21 true) (.n (.ld1 r22))),
      .op (.mk (.to q24) (.on r21 true) (.n (.mv r1))),
      .op (.mk (.to q25) (.on r21 true) (.n (.mv r5))),
      .op (.mk (.to q26) (.on r21 true) (.e (.callv r24 [r25]))),
      .re q23 (.on r21 true) (.ld1 r22),
      .op (.mk (.to q27) (.on r21 true) (.n (.bin .lss r23 r26))),
      .op (.mk (.to q28) .no (.n (.pick r21 r27 (.c (.bool false))))),
      .op (.mk (.to q4) .no (.n (.mv r28)))])
     .ret)))))
 [.tmp q4] .no 0
/- (kiln/class.File).many -/
def af_class_File_many : AF := .mk 2 (.seq (.ops [.mk (.to q2) .no (.a (.box r0)),
  .mk (.to q3) .no (.a (.box r1)),
  .mk (.to q4) .no (.n (.mv (.c .nilf)))])
 (.seq (.ops [.mk .ps .no (.n (.mkfn n_class_File_many_1 [] [r2, r3])),
   .mk (.to q4) .no (.n (.mv (.s 0)))])
  .ret))
 [.tmp q4] .no 0
/- kiln/hier.twice -/
def af_hier_twice : AF := .mk 1 (.seq (.ops [.mk (.to q1) .no (.a (.box r0)),
  .mk (.to q2) .no (.n (.mv (.c (.bool false))))])
 (.seq (.seq (.ops [.mk .ps .no (.n (.faddr 2 r1)),
    .mk .ps .no (.n (.ld1 (.s 0))),
    .mk (.to q7) .no (.n (.lenL (.s 0))),
    .mk (.to q8) .no (.n (.mv (.c (.int .i64 (.ofNat 0) 0))))])
   (.block 0 (.loop (.seq (.ops [.mk (.to q9) .no (.n (.bin .lss r8 r7))])
      (.seq (.cond r9 .skip
        (.exit 0))
       (.seq (.block 1 (.seq (.ops [.mk (.to q3) .no (.n (.mv r8))])
          (.seq (.reg [.op (.mk (.to q11) .no (.n (.mv r3))),
            .op (.mk (.to q12) .no (.n (.bin .gtr r11 (.c (.int .i64 (.ofNat 0) 0))))),
            .op (.mk (.to q13) .no (.n (.mv r12))),
            .op (.mk (.to q14) (.on r13 true) (.n (.faddr 2 r1))),
            .op (.mk (.to q15) (.on r13 true) (.n (.ld1 r14))),
            .op (.mk (.to q16) (.on r13 true) (.n (.mv r3))),
            .op (.mk (.to q17) (.on r13 true) (.n (.bin .sub r16 (.c (.int .i64 (.ofNat 1) 0))))),
            .op (.mk (.to q18) (.on r13 true) (.n (.iaddr 3 r15 r17))),
            .op (.mk (.to q19) (.on r13 true) (.n (.faddr 0 r18))),
            .op (.mk (.to q20) (.on r13 true) (.n (.ld1 r19))),
            .op (.mk (.to q21) (.on r13 true) (.n (.faddr 2 r1))),
            .op (.mk (.to q22) (.on r13 true) (.n (.ld1 r21))),
            .op (.mk (.to q23) (.on r13 true) (.n (.mv r3))),
            .op (.mk (.to q24) (.on r13 true) (.n (.iaddr 3 r22 r23))),
            .op (.mk (.to q25) (.on r13 true) (.n (.faddr 0 r24))),
            .op (.mk (.to q26) (.on r13 true) (.n (.ld1 r25))),
            .op (.mk (.to q27) (.on r13 true) (.n (.eq (.one .str) false r20 r26))),
            .op (.mk (.to q28) .no (.n (.pick r13 r27 (.c (.bool false)))))])
           (.cond r28 (.seq (.ops [.mk (.to q2) .no (.n (.mv (.c (.bool true))))])
             .ret)
            .skip))))
        (.ops [.mk .ps .no (.n (.bin .add r8 (.c (.int .i64 (.ofNat 1) 0)))),
         .mk (.to q8) .no (.n (.mv (.s 0)))])))))))
  (.seq (.seq (.ops [.mk .ps .no (.n (.faddr 3 r1)),
     .mk .ps .no (.n (.ld1 (.s 0))),
     .mk (.to q32) .no (.n (.lenL (.s 0))),
     .mk (.to q33) .no (.n (.mv (.c (.int .i64 (.ofNat 0) 0))))])
    (.block 2 (.loop (.seq (.ops [.mk (.to q34) .no (.n (.bin .lss r33 r32))])
       (.seq (.cond r34 .skip
         (.exit 2))
        (.seq (.block 3 (.seq (.ops [.mk (.to q4) .no (.n (.mv r33))])
           (.seq (.reg [.op (.mk (.to q36) .no (.n (.mv r4))),
             .op (.mk (.to q37) .no (.n (.bin .gtr r36 (.c (.int .i64 (.ofNat 0) 0))))),
             .op (.mk (.to q38) .no (.n (.mv r37))),
             .op (.mk (.to q39) (.on r38 true) (.n (.faddr 3 r1))),
             .op (.mk (.to q40) (.on r38 true) (.n (.ld1 r39))),
             .op (.mk (.to q41) (.on r38 true) (.n (.mv r4))),
             .op (.mk (.to q42) (.on r38 true) (.n (.bin .sub r41 (.c (.int .i64 (.ofNat 1) 0))))),
             .op (.mk (.to q43) (.on r38 true) (.n (.iaddr 5 r40 r42))),
             .op (.mk (.to q44) (.on r38 true) (.n (.faddr 0 r43))),
             .op (.mk (.to q45) (.on r38 true) (.n (.ld1 r44))),
             .op (.mk (.to q46) (.on r38 true) (.n (.faddr 3 r1))),
             .op (.mk (.to q47) (.on r38 true) (.n (.ld1 r46))),
             .op (.mk (.to q48) (.on r38 true) (.n (.mv r4))),
             .op (.mk (.to q49) (.on r38 true) (.n (.iaddr 5 r47 r48))),
             .op (.mk (.to q50) (.on r38 true) (.n (.faddr 0 r49))),
             .op (.mk (.to q51) (.on r38 true) (.n (.ld1 r50))),
             .op (.mk (.to q52) (.on r38 true) (.n (.eq (.one .str) false r45 r51))),
             .op (.mk (.to q53) .no (.n (.pick r38 r52 (.c (.bool false)))))])
            (.cond r53 (.seq (.ops [.mk (.to q2) .no (.n (.mv (.c (.bool true))))])
              .ret)
             .skip))))
         (.ops [.mk .ps .no (.n (.bin .add r33 (.c (.int .i64 (.ofNat 1) 0)))),
          .mk (.to q33) .no (.n (.mv (.s 0)))])))))))
   (.seq (.ops [.mk (.to q2) .no (.n (.mv (.c (.bool false))))])
    .ret))))
 [.tmp q2] .no 0
/- (kiln/face.Face).Field -/
def af_face_Face_Field : AF := .mk 2 (.seq (.ops [.mk (.to q2) .no (.a (.box r0)),
  .mk (.to q4) .no (.a (.alloc 2 [[(.str 0 0), (.bool false)]])),
  .mk (.to q5) .no (.n (.mv (.c (.bool false))))])
 (.seq (.seq (.ops [.mk .ps .no (.n (.faddr 2 r2)),
    .mk (.to q9) .no (.n (.ld1 (.s 0))),
    .mk (.to q10) .no (.n (.lenL r9)),
    .mk (.to q11) .no (.n (.mv (.c (.int .i64 (.ofNat 0) 0))))])
   (.block 0 (.loop (.seq (.ops [.mk (.to q12) .no (.n (.bin .lss r11 r10))])
      (.seq (.cond r12 .skip
        (.exit 0))
       (.seq (.block 1 (.seq (.ops [.mk .ps .no (.n (.iaddr 3 r9 r11)),
           .mk .ps .no (.n (.ldn 3 (.s 0))),
           .mk (.to q7) .no (.a (.alloc 3 [[(.str 0 0), (.str 0 0), (.bool false)]])),
           .mk .no .no (.e (.st 3 r7 (.s 0)))])
          (.seq (.ops [.mk .ps .no (.n (.faddr 0 r7)),
            .mk .ps .no (.n (.ld1 (.s 0))),
            .mk (.to q18) .no (.n (.eq (.one .str) false (.s 0) r1))])
           (.cond r18 (.seq (.ops [.mk .ps .no (.n (.faddr 1 r7)),
              .mk .ps .no (.n (.ldn 2 (.s 0))),
              .mk .no .no (.e (.st 2 r4 (.s 0))),
              .mk (.to q5) .no (.n (.mv (.c (.bool true))))])
             .ret)
            .skip))))
        (.ops [.mk .ps .no (.n (.bin .add r11 (.c (.int .i64 (.ofNat 1) 0)))),
         .mk (.to q11) .no (.n (.mv (.s 0)))])))))))
  (.seq (.ops [.mk .ps .no (.n (.build [(.str 0 0), (.bool false)] [])),
    .mk .no .no (.e (.st 2 r4 (.s 0))),
    .mk (.to q5) .no (.n (.mv (.c (.bool false))))])
   .ret)))
 [.celln q4 2, .tmp q5] .no 0
/- slices.Equal[[]kiln/ast.Type,kiln/ast.Type] -/
def af_slices_Equal_ast_Type_ast_Type : AF := .mk 2 (.seq (.ops [.mk (.to q4) .no (.n (.mv (.c (.bool false))))])
 (.seq (.seq (.ops [.mk .ps .no (.n (.lenL r0)),
    .mk .ps .no (.n (.lenL r1)),
    .mk (.to q10) .no (.n (.eq (.one .int) true (.s 1) (.s 0)))])
   (.cond r10 (.seq (.ops [.mk (.to q4) .no (.n (.mv (.c (.bool false))))])
     .ret)
    .skip))
  (.seq (.seq (.ops [.mk (.to q12) .no (.n (.lenL r0)),
     .mk (.to q13) .no (.n (.mv (.c (.int .i64 (.ofNat 0) 0))))])
    (.block 0 (.loop (.seq (.ops [.mk (.to q14) .no (.n (.bin .lss r13 r12))])
       (.seq (.cond r14 .skip
         (.exit 0))
        (.seq (.block 1 (.seq (.ops [.mk (.to q5) .no (.n (.mv r13))])
           (.seq (.reg [.op (.mk (.to q16) .no (.n (.mv r0))),
             .op (.mk (.to q17) .no (.n (.mv r5))),
             .op (.mk (.to q18) .no (.n (.iaddr 2 r16 r17))),
             .op (.mk (.to q19) .no (.n (.ldn 2 r18))),
             .op (.mk (.to q20) .no (.n (.mv r1))),
             .op (.mk (.to q21) .no (.n (.mv r5))),
             .op (.mk (.to q22) .no (.n (.iaddr 2 r20 r21))),
             .op (.mk (.to q23) .no (.n (.ldn 2 r22))),
             .op (.mk (.to q24) .no (.n (.eq (.agg [.str, .bool]) true r19 r23)))])
            (.cond r24 (.seq (.ops [.mk (.to q4) .no (.n (.mv (.c (.bool false))))])
              .ret)
             .skip))))
         (.ops [.mk .ps .no (.n (.bin .add r13 (.c (.int .i64 (.ofNat 1) 0)))),
          .mk (.to q13) .no (.n (.mv (.s 0)))])))))))
   (.seq (.ops [.mk (.to q4) .no (.n (.mv (.c (.bool true))))])
    .ret))))
 [.tmp q4] .no 0
/- slices.Index[[]string,string] -/
def af_slices_Index_string_string : AF := .mk 2 (.seq (.ops [.mk (.to q4) .no (.n (.mv (.c (.int .i64 (.ofNat 0) 0))))])
 (.seq (.seq (.ops [.mk (.to q7) .no (.n (.lenL r0)),
    .mk (.to q8) .no (.n (.mv (.c (.int .i64 (.ofNat 0) 0))))])
   (.block 0 (.loop (.seq (.ops [.mk (.to q9) .no (.n (.bin .lss r8 r7))])
      (.seq (.cond r9 .skip
        (.exit 0))
       (.seq (.block 1 (.seq (.ops [.mk (.to q5) .no (.n (.mv r8))])
          (.seq (.ops [.mk .ps .no (.n (.iaddr 1 r0 r5)),
            .mk .ps .no (.n (.ld1 (.s 0))),
            .mk (.to q16) .no (.n (.eq (.one .str) false r1 (.s 0)))])
           (.cond r16 (.seq (.ops [.mk (.to q4) .no (.n (.mv r5))])
             .ret)
            .skip))))
        (.ops [.mk .ps .no (.n (.bin .add r8 (.c (.int .i64 (.ofNat 1) 0)))),
         .mk (.to q8) .no (.n (.mv (.s 0)))])))))))
  (.seq (.ops [.mk (.to q4) .no (.n (.mv (.c (.int .i64 (.negSucc 0) 0))))])
   .ret)))
 [.tmp q4] .no 0
/- kiln/face.Good -/
def af_face_Good : AF := .mk 1 (.seq (.ops [.mk (.to q1) .no (.a (.box r0)),
  .mk (.to q2) .no (.n (.mv (.c (.bool false))))])
 (.seq (.ops [.mk .ps .no (.n (.faddr 0 r1)),
   .mk .ps .no (.n (.ld1 (.s 0))),
   .mk .ps .no (.n (.eq (.one .str) false (.s 0) (.c (.str 3 7630441)))),
   .mk .ps (.on (.s 0) false) (.n (.faddr 0 r1)),
   .mk .ps (.on (.s 1) false) (.n (.ld1 (.s 0))),
   .mk .ps (.on (.s 2) false) (.n (.eq (.one .str) false (.s 0) (.c (.str 4 1819242338)))),
   .mk .ps .no (.n (.pick (.s 3) (.c (.bool true)) (.s 0))),
   .mk .ps (.on (.s 0) false) (.n (.faddr 0 r1)),
   .mk .ps (.on (.s 1) false) (.n (.ld1 (.s 0))),
   .mk .ps (.on (.s 2) false) (.e (.call n_ast_Of [(.s 0)])),
   .mk .ps (.on (.s 3) false) (.e (.call n_ast_Type_Class [(.s 0)])),
   .mk .ps (.on (.s 4) false) (.n (.mv (.s 0))),
   .mk .ps (.on (.s 0) true) (.n (.faddr 0 r1)),
   .mk .ps (.on (.s 1) true) (.n (.ld1 (.s 0))),
   .mk .ps (.on (.s 2) true) (.n (.lenS (.s 0))),
   .mk .ps (.on (.s 3) true) (.n (.bin .leq (.s 0) (.c (.int .i64 (.ofNat 40) 0)))),
   .mk .ps (.on (.s 9) false) (.n (.pick (.s 4) (.s 0) (.c (.bool false)))),
   .mk .ps .no (.n (.pick (.s 10) (.c (.bool true)) (.s 0))),
   .mk (.to q2) .no (.n (.mv (.s 0)))])
  .ret))
 [.tmp q2] .no 0
/- (kiln/ast.Type).Class -/
def af_ast_Type_Class : AF := .mk 1 (.seq (.ops [.mk (.to q1) .no (.a (.box r0)),
  .mk (.to q2) .no (.n (.mv (.c (.bool false))))])
 (.seq (.ops [.mk .ps .no (.n (.faddr 1 r1)),
   .mk .ps .no (.n (.ld1 (.s 0))),
   .mk .ps .no (.n (.not (.s 0))),
   .mk .ps (.on (.s 0) true) (.n (.faddr 0 r1)),
   .mk .ps (.on (.s 1) true) (.n (.ld1 (.s 0))),
   .mk .ps (.on (.s 2) true) (.n (.eq (.one .str) true (.s 0) (.c (.str 0 0)))),
   .mk .ps .no (.n (.pick (.s 3) (.s 0) (.c (.bool false)))),
   .mk .ps (.on (.s 0) true) (.n (.faddr 0 r1)),
   .mk .ps (.on (.s 1) true) (.n (.ld1 (.s 0))),
   .mk .ps (.on (.s 2) true) (.n (.idxS (.s 0) (.c (.int .i64 (.ofNat 0) 0)))),
   .mk .ps (.on (.s 3) true) (.n (.bin .geq (.s 0) (.c (.int .u8 (.ofNat 65) 0)))),
   .mk .ps .no (.n (.pick (.s 4) (.s 0) (.c (.bool false)))),
   .mk .ps (.on (.s 0) true) (.n (.faddr 0 r1)),
   .mk .ps (.on (.s 1) true) (.n (.ld1 (.s 0))),
   .mk .ps (.on (.s 2) true) (.n (.idxS (.s 0) (.c (.int .i64 (.ofNat 0) 0)))),
   .mk .ps (.on (.s 3) true) (.n (.bin .leq (.s 0) (.c (.int .u8 (.ofNat 90) 0)))),
   .mk .ps .no (.n (.pick (.s 4) (.s 0) (.c (.bool false)))),
   .mk (.to q2) .no (.n (.mv (.s 0)))])
  .ret))
 [.tmp q2] .no 0
/- (*kiln/verify.checker).flow -/
def af_verify_checker_flow : AF := .mk 3 (.seq (.ops [.mk (.to q5) .no (.a (.box r2)),
  .mk (.to q6) .no (.n (.mv (.c (.bool false))))])
 (.seq (.seq (.ops [.mk .ps .no (.n (.nilck r0)),
    .mk .ps .no (.n (.faddr 11 (.s 0))),
    .mk .ps .no (.n (.faddr 2 (.s 0))),
    .mk .ps .no (.n (.ld1 (.s 0))),
    .mk .ps .no (.n (.lenL (.s 0))),
    .mk (.to q25) .no (.n (.bin .geq r1 (.s 0)))])
   (.cond r25 (.seq (.ops [.mk (.to q6) .no (.n (.mv (.c (.bool false))))])
     .ret)
    .skip))
  (.seq (.ops [.mk .ps .no (.n (.nilck r0)),
    .mk .ps .no (.n (.faddr 19 (.s 0))),
    .mk .ps .no (.n (.ld1 (.s 0))),
    .mk .ps .no (.n (.iaddr 1 (.s 0) r1)),
    .mk .ps .no (.n (.ld1 (.s 0))),
    .mk (.to q7) .no (.n (.mv (.s 0)))])
   (.seq (.seq (.ops [.mk (.to q34) .no (.n (.eq (.one .ptr) false r7 (.c .nilp)))])
     (.cond r34 (.seq (.ops [.mk .ps .no (.n (.ldn 2 r5)),
        .mk .ps .no (.e (.call n_verify_state_clone [(.s 0)])),
        .mk (.to q8) .no (.a (.alloc 2 [[.nils, .nils]])),
        .mk .no .no (.e (.st 2 r8 (.s 0)))])
       (.seq (.reg [.op (.mk (.to q37) .no (.n (.mv r0))),
         .op (.mk (.to q38) .no (.n (.nilck r37))),
         .op (.mk (.to q39) .no (.n (.faddr 19 r38))),
         .op (.mk (.to q40) .no (.n (.ld1 r39))),
         .op (.mk (.to q41) .no (.n (.mv r1))),
         .op (.mk (.to q42) .no (.n (.mv r0))),
         .op (.mk (.to q43) .no (.n (.mv r0))),
         .op (.mk (.to q44) .no (.n (.nilck r43))),
         .op (.mk (.to q45) .no (.n (.faddr 20 r44))),
         .op (.mk (.to q46) .no (.n (.ld1 r45))),
         .op (.mk (.to q47) .no (.n (.mv r1))),
         .op (.mk (.to q48) .no (.a (.bslice 1 1 [(.int .i64 (.ofNat 0) 0)] [(0, r47)]))),
         .op (.mk (.to q49) .no (.e (.app 1 8 r46 r48))),
         .re q40 .no (.ld1 r39),
         .op (.mk (.to q50) .no (.n (.iaddr 1 r40 r41))),
         .op (.mk .no .no (.e (.st 1 r50 r8))),
         .op (.mk (.to q51) .no (.n (.nilck r42))),
         .op (.mk (.to q52) .no (.n (.faddr 20 r51))),
         .op (.mk .no .no (.e (.st 1 r52 r49)))])
        (.seq (.ops [.mk (.to q6) .no (.n (.mv (.c (.bool true))))])
         .ret)))
      .skip))
    (.seq (.seq (.reg [.op (.mk (.to q53) .no (.n (.mv r7))),
       .op (.mk (.to q54) .no (.n (.nilck r53))),
       .op (.mk (.to q55) .no (.n (.faddr 1 r54))),
       .op (.mk (.to q56) .no (.n (.ld1 r55))),
       .op (.mk (.to q57) .no (.n (.lenL r56))),
       .op (.mk (.to q58) .no (.n (.faddr 1 r5))),
       .op (.mk (.to q59) .no (.n (.ld1 r58))),
       .op (.mk (.to q60) .no (.n (.lenL r59))),
       .op (.mk (.to q61) .no (.n (.eq (.one .int) true r57 r60)))])
      (.cond r61 (.seq (.ops [.mk (.to q6) .no (.n (.mv (.c (.bool false))))])
        .ret)
       .skip))
     (.seq (.ops [.mk (.to q9) .no (.n (.mv (.c (.bool false))))])
      (.seq (.seq (.ops [.mk .ps .no (.n (.faddr 1 r5)),
         .mk (.to q63) .no (.n (.ld1 (.s 0))),
         .mk (.to q64) .no (.n (.lenL r63)),
         .mk (.to q65) .no (.n (.mv (.c (.int .i64 (.ofNat 0) 0))))])
        (.block 0 (.loop (.seq (.ops [.mk (.to q66) .no (.n (.bin .lss r65 r64))])
           (.seq (.cond r66 .skip
             (.exit 0))
            (.seq (.block 1 (.seq (.ops [.mk .ps .no (.n (.iaddr 2 r63 r65)),
                .mk .ps .no (.n (.ldn 2 (.s 0))),
                .mk (.to q11) .no (.a (.alloc 2 [[(.str 0 0), (.bool false)]])),
                .mk (.to q10) .no (.n (.mv r65)),
                .mk .no .no (.e (.st 2 r11 (.s 0)))])
               (.seq (.reg [.op (.mk (.to q71) .no (.n (.mv r0))),
                 .op (.mk (.to q72) .no (.n (.nilck r71))),
                 .op (.mk (.to q73) .no (.n (.faddr 0 r72))),
                 .op (.mk (.to q74) .no (.n (.ld1 r73))),
                 .op (.mk (.to q75) .no (.n (.mv r7))),
                 .op (.mk (.to q76) .no (.n (.nilck r75))),
                 .op (.mk (.to q77) .no (.n (.faddr 1 r76))),
                 .op (.mk (.to q78) .no (.n (.ld1 r77))),
                 .op (.mk (.to q79) .no (.n (.mv r10))),
                 .op (.mk (.to q80) .no (.n (.iaddr 2 r78 r79))),
                 .op (.mk (.to q81) .no (.n (.ldn 2 r80))),
                 .op (.mk (.to q82) .no (.n (.ldn 2 r11))),
                 .op (.mk (.to q12) .no (.a (.alloc 2 [[(.str 0 0), (.bool false)]]))),
                 .op (.mk (.to q83) .no (.e (.call n_verify_join [r74, r81, r82]))),
                 .op (.mk (.to q70) .no (.n (.mv r83))),
                 .op (.mk (.to q84) .no (.n (.ext r70 0))),
                 .op (.mk (.to q85) .no (.n (.ext r70 1))),
                 .op (.mk .no .no (.e (.st 2 r12 r84))),
                 .op (.mk (.to q13) .no (.n (.mv r85)))])
                (.seq (.seq (.ops [.mk (.to q87) .no (.n (.not r13))])
                  (.cond r87 (.seq (.ops [.mk (.to q6) .no (.n (.mv (.c (.bool false))))])
                    .ret)
                   .skip))
                 (.seq (.reg [.op (.mk (.to q88) .no (.n (.mv r9))),
                   .op (.mk (.to q89) .no (.n (.mv r88))),
                   .op (.mk (.to q90) (.on r89 false) (.n (.ldn 2 r12))),
                   .op (.mk (.to q91) (.on r89 false) (.n (.mv r7))),
                   .op (.mk (.to q92) (.on r89 false) (.n (.nilck r91))),
                   .op (.mk (.to q93) (.on r89 false) (.n (.faddr 1 r92))),
                   .op (.mk (.to q94) (.on r89 false) (.n (.ld1 r93))),
                   .op (.mk (.to q95) (.on r89 false) (.n (.mv r10))),
                   .op (.mk (.to q96) (.on r89 false) (.n (.iaddr 2 r94 r95))),
                   .op (.mk (.to q97) (.on r89 false) (.n (.ldn 2 r96))),
                   .op (.mk (.to q98) (.on r89 false) (.n (.eq (.agg [.str, .bool]) true r90 r97))),
                   .op (.mk (.to q99) .no (.n (.pick r89 (.c (.bool true)) r98))),
                   .op (.mk (.to q9) .no (.e (.asg r99)))])
                  (.reg [.op (.mk (.to q100) .no (.n (.mv r7))),
                   .op (.mk (.to q101) .no (.n (.nilck r100))),
                   .op (.mk (.to q102) .no (.n (.faddr 1 r101))),
                   .op (.mk (.to q103) .no (.n (.ld1 r102))),
                   .op (.mk (.to q104) .no (.n (.mv r10))),
                   .op (.mk (.to q105) .no (.n (.ldn 2 r12))),
                   .op (.mk (.to q106) .no (.n (.iaddr 2 r103 r104))),
                   .op (.mk .no .no (.e (.st 2 r106 r105)))]))))))
             (.ops [.mk .ps .no (.n (.bin .add r65 (.c (.int .i64 (.ofNat 1) 0)))),
              .mk (.to q65) .no (.n (.mv (.s 0)))])))))))
       (.seq (.seq (.ops [.mk .ps .no (.n (.faddr 0 r5)),
          .mk (.to q109) .no (.n (.ld1 (.s 0))),
          .mk (.to q110) .no (.n (.lenL r109)),
          .mk (.to q111) .no (.n (.mv (.c (.int .i64 (.ofNat 0) 0))))])
         (.block 2 (.loop (.seq (.ops [.mk (.to q112) .no (.n (.bin .lss r111 r110))])
            (.seq (.cond r112 .skip
              (.exit 2))
             (.seq (.block 3 (.seq (.ops [.mk .ps .no (.n (.iaddr 2 r109 r111)),
                 .mk .ps .no (.n (.ldn 2 (.s 0))),
                 .mk (.to q15) .no (.a (.alloc 2 [[(.str 0 0), (.bool false)]])),
                 .mk (.to q14) .no (.n (.mv r111)),
                 .mk .no .no (.e (.st 2 r15 (.s 0)))])
                (.seq (.reg [.op (.mk (.to q117) .no (.n (.mv r0))),
                  .op (.mk (.to q118) .no (.n (.nilck r117))),
                  .op (.mk (.to q119) .no (.n (.faddr 0 r118))),
                  .op (.mk (.to q120) .no (.n (.ld1 r119))),
                  .op (.mk (.to q121) .no (.n (.mv r7))),
                  .op (.mk (.to q122) .no (.n (.nilck r121))),
                  .op (.mk (.to q123) .no (.n (.faddr 0 r122))),
                  .op (.mk (.to q124) .no (.n (.ld1 r123))),
                  .op (.mk (.to q125) .no (.n (.mv r14))),
                  .op (.mk (.to q126) .no (.n (.iaddr 2 r124 r125))),
                  .op (.mk (.to q127) .no (.n (.ldn 2 r126))),
                  .op (.mk (.to q128) .no (.n (.ldn 2 r15))),
                  .op (.mk (.to q16) .no (.a (.alloc 2 [[(.str 0 0), (.bool false)]]))),
                  .op (.mk (.to q129) .no (.e (.call n_verify_join [r120, r127, r128]))),
                  .op (.mk (.to q116) .no (.n (.mv r129))),
                  .op (.mk (.to q130) .no (.n (.ext r116 0))),
                  .op (.mk (.to q131) .no (.n (.ext r116 1))),
                  .op (.mk .no .no (.e (.st 2 r16 r130))),
                  .op (.mk (.to q17) .no (.n (.mv r131)))])
                 (.seq (.reg [.op (.mk (.to q132) .no (.n (.mv r9))),
                   .op (.mk (.to q133) .no (.n (.mv r132))),
                   .op (.mk (.to q134) (.on r133 false) (.n (.ldn 2 r16))),
                   .op (.mk (.to q135) (.on r133 false) (.n (.mv r7))),
                   .op (.mk (.to q136) (.on r133 false) (.n (.nilck r135))),
                   .op (.mk (.to q137) (.on r133 false) (.n (.faddr 0 r136))),
                   .op (.mk (.to q138) (.on r133 false) (.n (.ld1 r137))),
                   .op (.mk (.to q139) (.on r133 false) (.n (.mv r14))),
                   .op (.mk (.to q140) (.on r133 false) (.n (.iaddr 2 r138 r139))),
                   .op (.mk (.to q141) (.on r133 false) (.n (.ldn 2 r140))),
                   .op (.mk (.to q142) (.on r133 false) (.n (.eq (.agg [.str, .bool]) true r134 r141))),
                   .op (.mk (.to q143) .no (.n (.pick r133 (.c (.bool true)) r142))),
                   .op (.mk (.to q9) .no (.e (.asg r143)))])
                  (.reg [.op (.mk (.to q144) .no (.n (.mv r7))),
                   .op (.mk (.to q145) .no (.n (.nilck r144))),
                   .op (.mk (.to q146) .no (.n (.faddr 0 r145))),
                   .op (.mk (.to q147) .no (.n (.ld1 r146))),
                   .op (.mk (.to q148) .no (.n (.mv r14))),
                   .op (.mk (.to q149) .no (.n (.ldn 2 r16))),
                   .op (.mk (.to q150) .no (.n (.iaddr 2 r147 r148))),
                   .op (.mk .no .no (.e (.st 2 r150 r149)))])))))
              (.ops [.mk .ps .no (.n (.bin .add r111 (.c (.int .i64 (.ofNat 1) 0)))),
               .mk (.to q111) .no (.n (.mv (.s 0)))])))))))
        (.seq (.seq (.ops [.mk (.to q152) .no (.n (.mv r9))])
          (.cond r152 (.ops [.mk .ps .no (.n (.nilck r0)),
            .mk .ps .no (.n (.faddr 20 (.s 0))),
            .mk .ps .no (.n (.ld1 (.s 0))),
            .mk .ps .no (.a (.bslice 1 1 [(.int .i64 (.ofNat 0) 0)] [(0, r1)])),
            .mk .ps .no (.e (.app 1 8 (.s 1) (.s 0))),
            .mk .ps .no (.n (.nilck r0)),
            .mk .ps .no (.n (.faddr 20 (.s 0))),
            .mk .no .no (.e (.st 1 (.s 0) (.s 2)))])
           .skip))
         (.seq (.ops [.mk (.to q6) .no (.n (.mv (.c (.bool true))))])
          .ret))))))))))
 [.tmp q6] .no 0
/- (kiln/verify.state).clone -/
def af_verify_state_clone : AF := .mk 1 (.seq (.ops [.mk (.to q1) .no (.a (.box r0)),
  .mk (.to q2) .no (.a (.alloc 2 [[.nils, .nils]]))])
 (.seq (.reg [.op (.mk (.to q3) .no (.n (.faddr 0 r1))),
   .op (.mk (.to q4) .no (.n (.ld1 r3))),
   .op (.mk (.to q6) .no (.n (.faddr 1 r1))),
   .op (.mk (.to q7) .no (.n (.ld1 r6))),
   .op (.mk (.to q5) .no (.e (.call n_slices_Clone_ast_Type_ast_Type [r4]))),
   .re q7 .no (.ld1 r6),
   .op (.mk (.to q8) .no (.e (.call n_slices_Clone_ast_Type_ast_Type [r7]))),
   .op (.mk (.to q9) .no (.n (.build [.nils, .nils] [(0, 1, r5), (1, 1, r8)]))),
   .op (.mk .no .no (.e (.st 2 r2 r9)))])
  .ret))
 [.celln q2 2] .no 0
/- (*kiln/verify.checker).step -/
def af_verify_checker_step : AF := .mk 3 (.seq (.ops [.mk (.to q5) .no (.a (.box r2)),
  .mk (.to q6) .no (.n (.mv (.c (.bool false))))])
 (.seq (.ops [.mk .ps .no (.e (.call n_ast_Int [])),
   .mk .ps .no (.e (.call n_ast_Bool [])),
   .mk (.to q7) .no (.a (.alloc 2 [[(.str 0 0), (.bool false)]])),
   .mk (.to q8) .no (.a (.alloc 2 [[(.str 0 0), (.bool false)]])),
   .mk .no .no (.e (.st 2 r7 (.s 1))),
   .mk .no .no (.e (.st 2 r8 (.s 0)))])
  (.seq (.seq (.ops [.mk .ps .no (.n (.faddr 0 r5)),
     .mk (.to q20) .no (.n (.ld1 (.s 0)))])
    (.block 0 (.seq (.ops [.mk .ps .no (.n (.eq (.one .int) false r20 (.c (.int .i64 (.ofNat 1) 0)))),
       .mk (.to q21) .no (.n (.mv (.s 0)))])
      (.cond r21 (.seq (.ops [.mk .ps .no (.n (.ldn 2 r7)),
         .mk .ps .no (.e (.call n_verify_checker_push [r0, r1, (.s 0)])),
         .mk (.to q6) .no (.n (.mv (.s 0)))])
        .ret)
       (.seq (.ops [.mk .ps .no (.n (.eq (.one .int) false r20 (.c (.int .i64 (.ofNat 32) 0)))),
         .mk (.to q27) .no (.n (.mv (.s 0)))])
        (.cond r27 (.seq (.ops [.mk .ps .no (.n (.ldn 2 r8)),
           .mk .ps .no (.e (.call n_verify_checker_push [r0, r1, (.s 0)])),
           .mk (.to q6) .no (.n (.mv (.s 0)))])
          .ret)
         (.seq (.ops [.mk .ps .no (.n (.eq (.one .int) false r20 (.c (.int .i64 (.ofNat 2) 0)))),
           .mk (.to q33) .no (.n (.mv (.s 0)))])
          (.cond r33 (.seq (.ops [.mk .ps .no (.e (.call n_ast_Nothing [])),
             .mk .ps .no (.e (.call n_verify_checker_push [r0, r1, (.s 0)])),
             .mk (.to q6) .no (.n (.mv (.s 0)))])
            .ret)
           (.seq (.ops [.mk .ps .no (.n (.eq (.one .int) false r20 (.c (.int .i64 (.ofNat 3) 0)))),
             .mk (.to q39) .no (.n (.mv (.s 0)))])
            (.cond r39 (.seq (.reg [.op (.mk (.to q41) .no (.n (.mv r1))),
               .op (.mk (.to q42) .no (.n (.nilck r41))),
               .op (.mk (.to q43) .no (.n (.faddr 0 r42))),
               .op (.mk (.to q44) .no (.n (.ld1 r43))),
               .op (.mk (.to q45) .no (.n (.faddr 1 r5))),
               .op (.mk (.to q46) .no (.n (.ld1 r45))),
               .op (.mk (.to q47) .no (.n (.iaddr 2 r44 r46))),
               .op (.mk (.to q48) .no (.n (.ldn 2 r47))),
               .op (.mk (.to q49) .no (.n (.build [(.str 0 0), (.bool false)] []))),
               .op (.mk (.to q50) .no (.n (.eq (.agg [.str, .bool]) true r48 r49))),
               .op (.mk (.to q51) .no (.n (.mv r50))),
               .op (.mk (.to q52) (.on r51 true) (.n (.mv r0))),
               .op (.mk (.to q53) (.on r51 true) (.n (.mv r1))),
               .op (.mk (.to q54) (.on r51 true) (.n (.mv r1))),
               .op (.mk (.to q55) (.on r51 true) (.n (.nilck r54))),
               .op (.mk (.to q56) (.on r51 true) (.n (.faddr 0 r55))),
               .op (.mk (.to q57) (.on r51 true) (.n (.ld1 r56))),
               .op (.mk (.to q58) (.on r51 true) (.n (.faddr 1 r5))),
               .op (.mk (.to q59) (.on r51 true) (.n (.ld1 r58))),
               .op (.mk (.to q60) (.on r51 true) (.n (.iaddr 2 r57 r59))),
               .op (.mk (.to q61) (.on r51 true) (.n (.ldn 2 r60))),
               .op (.mk (.to q62) (.on r51 true) (.e (.call n_verify_checker_push [r52, r53, r61]))),
               .op (.mk (.to q63) .no (.n (.pick r51 r62 (.c (.bool false))))),
               .op (.mk (.to q6) .no (.n (.mv r63)))])
              .ret)
             (.seq (.ops [.mk .ps .no (.n (.eq (.one .int) false r20 (.c (.int .i64 (.ofNat 4) 0)))),
               .mk (.to q64) .no (.n (.mv (.s 0)))])
              (.cond r64 (.seq (.ops [.mk .ps .no (.e (.call n_verify_state_take [r1])),
                 .mk .ps .no (.n (.ext (.s 0) 0)),
                 .mk .ps .no (.n (.ext (.s 1) 1)),
                 .mk (.to q9) .no (.a (.alloc 2 [[(.str 0 0), (.bool false)]])),
                 .mk .no .no (.e (.st 2 r9 (.s 1))),
                 .mk (.to q10) .no (.n (.mv (.s 0)))])
                (.seq (.reg [.op (.mk (.to q71) .no (.n (.mv r1))),
                  .op (.mk (.to q72) .no (.n (.nilck r71))),
                  .op (.mk (.to q73) .no (.n (.faddr 0 r72))),
                  .op (.mk (.to q74) .no (.n (.ld1 r73))),
                  .op (.mk (.to q75) .no (.n (.faddr 1 r5))),
                  .op (.mk (.to q76) .no (.n (.ld1 r75))),
                  .op (.mk (.to q77) .no (.n (.ldn 2 r9))),
                  .op (.mk (.to q78) .no (.n (.iaddr 2 r74 r76))),
                  .op (.mk .no .no (.e (.st 2 r78 r77)))])
                 (.seq (.ops [.mk (.to q6) .no (.n (.mv r10))])
                  .ret)))
               (.seq (.seq (.ops [.mk .ps .no (.n (.eq (.one .int) false r20 (.c (.int .i64 (.ofNat 5) 0)))),
                  .mk (.to q80) .no (.n (.mv (.s 0)))])
                 (.cond r80 .skip
                  (.seq (.ops [.mk .ps .no (.n (.eq (.one .int) false r20 (.c (.int .i64 (.ofNat 6) 0)))),
                    .mk (.to q80) .no (.n (.mv (.s 0)))])
                   (.cond r80 .skip
                    (.seq (.ops [.mk .ps .no (.n (.eq (.one .int) false r20 (.c (.int .i64 (.ofNat 7) 0)))),
                      .mk (.to q80) .no (.n (.mv (.s 0)))])
                     (.cond r80 .skip
                      (.seq (.ops [.mk .ps .no (.n (.eq (.one .int) false r20 (.c (.int .i64 (.ofNat 8) 0)))),
                        .mk (.to q80) .no (.n (.mv (.s 0)))])
                       (.cond r80 .skip
                        (.ops [.mk .ps .no (.n (.eq (.one .int) false r20 (.c (.int .i64 (.ofNat 9) 0)))),
                         .mk (.to q80) .no (.n (.mv (.s 0)))])))))))))
                (.cond r80 (.seq (.ops [.mk .ps .no (.n (.ldn 2 r7)),
                   .mk .ps .no (.n (.ldn 2 r7)),
                   .mk .ps .no (.a (.bslice 2 2 [(.str 0 0), (.bool false)] [(0, (.s 1)), (1, (.s 0))])),
                   .mk .ps .no (.e (.call n_verify_checker_pop [r0, r1, (.s 0)])),
                   .mk .ps (.on (.s 0) true) (.n (.mv r0)),
                   .mk .ps (.on (.s 1) true) (.n (.mv r1)),
                   .mk .ps (.on (.s 2) true) (.n (.ldn 2 r7)),
                   .mk .ps (.on (.s 3) true) (.e (.call n_verify_checker_push [(.s 2), (.s 1), (.s 0)])),
                   .mk .ps .no (.n (.pick (.s 4) (.s 0) (.c (.bool false)))),
                   .mk (.to q6) .no (.n (.mv (.s 0)))])
                  .ret)
                 (.seq (.seq (.ops [.mk .ps .no (.n (.eq (.one .int) false r20 (.c (.int .i64 (.ofNat 10) 0)))),
                    .mk (.to q98) .no (.n (.mv (.s 0)))])
                   (.cond r98 .skip
                    (.ops [.mk .ps .no (.n (.eq (.one .int) false r20 (.c (.int .i64 (.ofNat 11) 0)))),
                     .mk (.to q98) .no (.n (.mv (.s 0)))])))
                  (.cond r98 (.seq (.ops [.mk .ps .no (.n (.ldn 2 r7)),
                     .mk .ps .no (.n (.ldn 2 r7)),
                     .mk .ps .no (.a (.bslice 2 2 [(.str 0 0), (.bool false)] [(0, (.s 1)), (1, (.s 0))])),
                     .mk .ps .no (.e (.call n_verify_checker_pop [r0, r1, (.s 0)])),
                     .mk .ps (.on (.s 0) true) (.n (.mv r0)),
                     .mk .ps (.on (.s 1) true) (.n (.mv r1)),
                     .mk .ps (.on (.s 2) true) (.n (.ldn 2 r8)),
                     .mk .ps (.on (.s 3) true) (.e (.call n_verify_checker_push [(.s 2), (.s 1), (.s 0)])),
                     .mk .ps .no (.n (.pick (.s 4) (.s 0) (.c (.bool false)))),
                     .mk (.to q6) .no (.n (.mv (.s 0)))])
                    .ret)
                   (.seq (.ops [.mk .ps .no (.n (.eq (.one .int) false r20 (.c (.int .i64 (.ofNat 14) 0)))),
                     .mk (.to q113) .no (.n (.mv (.s 0)))])
                    (.cond r113 (.seq (.ops [.mk .ps .no (.n (.ldn 2 r7)),
                       .mk .ps .no (.a (.bslice 2 1 [(.str 0 0), (.bool false)] [(0, (.s 0))])),
                       .mk .ps .no (.e (.call n_verify_checker_pop [r0, r1, (.s 0)])),
                       .mk .ps (.on (.s 0) true) (.n (.mv r0)),
                       .mk .ps (.on (.s 1) true) (.n (.mv r1)),
                       .mk .ps (.on (.s 2) true) (.n (.ldn 2 r7)),
                       .mk .ps (.on (.s 3) true) (.e (.call n_verify_checker_push [(.s 2), (.s 1), (.s 0)])),
                       .mk .ps .no (.n (.pick (.s 4) (.s 0) (.c (.bool false)))),
                       .mk (.to q6) .no (.n (.mv (.s 0)))])
                      .ret)
                     (.seq (.ops [.mk .ps .no (.n (.eq (.one .int) false r20 (.c (.int .i64 (.ofNat 15) 0)))),
                       .mk (.to q126) .no (.n (.mv (.s 0)))])
                      (.cond r126 (.seq (.ops [.mk .ps .no (.n (.ldn 2 r8)),
                         .mk .ps .no (.a (.bslice 2 1 [(.str 0 0), (.bool false)] [(0, (.s 0))])),
                         .mk .ps .no (.e (.call n_verify_checker_pop [r0, r1, (.s 0)])),
                         .mk .ps (.on (.s 0) true) (.n (.mv r0)),
                         .mk .ps (.on (.s 1) true) (.n (.mv r1)),
                         .mk .ps (.on (.s 2) true) (.n (.ldn 2 r8)),
                         .mk .ps (.on (.s 3) true) (.e (.call n_verify_checker_push [(.s 2), (.s 1), (.s 0)])),
                         .mk .ps .no (.n (.pick (.s 4) (.s 0) (.c (.bool false)))),
                         .mk (.to q6) .no (.n (.mv (.s 0)))])
                        .ret)
                       (.seq (.seq (.ops [.mk .ps .no (.n (.eq (.one .int) false r20 (.c (.int .i64 (.ofNat 12) 0)))),
                          .mk (.to q139) .no (.n (.mv (.s 0)))])
                         (.cond r139 .skip
                          (.ops [.mk .ps .no (.n (.eq (.one .int) false r20 (.c (.int .i64 (.ofNat 13) 0)))),
                           .mk (.to q139) .no (.n (.mv (.s 0)))])))
                        (.cond r139 (.seq (.ops [.mk .ps .no (.e (.call n_verify_state_take [r1])),
                           .mk .ps .no (.n (.ext (.s 0) 0)),
                           .mk .ps .no (.n (.ext (.s 1) 1)),
                           .mk (.to q11) .no (.a (.alloc 2 [[(.str 0 0), (.bool false)]])),
                           .mk .no .no (.e (.st 2 r11 (.s 1)))])
                          (.seq (.ops [.mk .ps .no (.e (.call n_verify_state_take [r1])),
                            .mk .ps .no (.n (.ext (.s 0) 0)),
                            .mk .ps .no (.n (.ext (.s 1) 1)),
                            .mk (.to q13) .no (.a (.alloc 2 [[(.str 0 0), (.bool false)]])),
                            .mk .no .no (.e (.st 2 r13 (.s 1))),
                            .mk (.to q14) .no (.n (.mv (.s 0)))])
                           (.seq (.ops [.mk .ps (.on r14 true) (.n (.faddr 0 r5)),
                             .mk .ps (.on r14 true) (.n (.ld1 (.s 0))),
                             .mk .ps (.on r14 true) (.n (.eq (.one .int) false (.s 0) (.c (.int .i64 (.ofNat 12) 0)))),
                             .mk .ps (.on r14 true) (.n (.mv (.s 0))),
                             .mk .ps (.on (.s 0) true) (.n (.ldn 2 r11)),
                             .mk .ps (.on (.s 1) true) (.n (.ldn 2 r13)),
                             .mk .ps (.on (.s 2) true) (.n (.eq (.agg [.str, .bool]) false (.s 1) (.s 0))),
                             .mk .ps (.on r14 true) (.n (.pick (.s 3) (.s 0) (.c (.bool false)))),
                             .mk .ps (.on r14 true) (.n (.mv (.s 0))),
                             .mk .ps (.on (.s 0) true) (.n (.ldn 2 r11)),
                             .mk .ps (.on (.s 1) true) (.e (.call n_ast_Type_Object [(.s 0)])),
                             .mk .ps (.on (.s 2) true) (.n (.not (.s 0))),
                             .mk .ps (.on r14 true) (.n (.pick (.s 3) (.s 0) (.c (.bool false)))),
                             .mk .ps (.on r14 true) (.n (.mv (.s 0))),
                             .mk .ps (.on (.s 0) false) (.n (.faddr 0 r5)),
                             .mk .ps (.on (.s 1) false) (.n (.ld1 (.s 0))),
                             .mk .ps (.on (.s 2) false) (.n (.eq (.one .int) false (.s 0) (.c (.int .i64 (.ofNat 13) 0)))),
                             .mk .ps (.on (.s 3) false) (.n (.mv (.s 0))),
                             .mk .ps (.on (.s 0) true) (.n (.ldn 2 r11)),
                             .mk .ps (.on (.s 1) true) (.e (.call n_ast_Type_Object [(.s 0)])),
                             .mk .ps (.on (.s 6) false) (.n (.pick (.s 2) (.s 0) (.c (.bool false)))),
                             .mk .ps (.on (.s 7) false) (.n (.mv (.s 0))),
                             .mk .ps (.on (.s 0) true) (.n (.ldn 2 r13)),
                             .mk .ps (.on (.s 1) true) (.e (.call n_ast_Type_Object [(.s 0)])),
                             .mk .ps (.on (.s 10) false) (.n (.pick (.s 2) (.s 0) (.c (.bool false)))),
                             .mk .ps (.on r14 true) (.n (.pick (.s 11) (.c (.bool true)) (.s 0))),
                             .mk .ps .no (.n (.pick r14 (.s 0) (.c (.bool false)))),
                             .mk .ps (.on (.s 0) true) (.n (.mv r0)),
                             .mk .ps (.on (.s 1) true) (.n (.mv r1)),
                             .mk .ps (.on (.s 2) true) (.n (.ldn 2 r8)),
                             .mk .ps (.on (.s 3) true) (.e (.call n_verify_checker_push [(.s 2), (.s 1), (.s 0)])),
                             .mk .ps .no (.n (.pick (.s 4) (.s 0) (.c (.bool false)))),
                             .mk (.to q6) .no (.n (.mv (.s 0)))])
                            .ret)))
                         (.seq (.ops [.mk .ps .no (.n (.eq (.one .int) false r20 (.c (.int .i64 (.ofNat 30) 0)))),
                           .mk (.to q187) .no (.n (.mv (.s 0)))])
                          (.cond r187 (.seq (.ops [.mk .ps .no (.n (.ldn 2 r7)),
                             .mk .ps .no (.a (.bslice 2 1 [(.str 0 0), (.bool false)] [(0, (.s 0))])),
                             .mk .ps .no (.e (.call n_verify_checker_pop [r0, r1, (.s 0)])),
                             .mk (.to q6) .no (.n (.mv (.s 0)))])
                            .ret)
                           (.seq (.ops [.mk .ps .no (.n (.eq (.one .int) false r20 (.c (.int .i64 (.ofNat 28) 0)))),
                             .mk (.to q194) .no (.n (.mv (.s 0)))])
                            (.cond r194 (.seq (.ops [.mk .ps .no (.n (.ldn 2 r8)),
                               .mk .ps .no (.a (.bslice 2 1 [(.str 0 0), (.bool false)] [(0, (.s 0))])),
                               .mk .ps .no (.e (.call n_verify_checker_pop [r0, r1, (.s 0)])),
                               .mk (.to q6) .no (.n (.mv (.s 0)))])
                              .ret)
                             (.seq (.ops [.mk .ps .no (.n (.eq (.one .int) false r20 (.c (.int .i64 (.ofNat 31) 0)))),
                               .mk (.to q201) .no (.n (.mv (.s 0)))])
                              (.cond r201 (.seq (.ops [.mk .ps .no (.e (.call n_verify_state_take [r1])),
                                 .mk .ps .no (.n (.ext (.s 0) 0)),
                                 .mk .ps .no (.n (.ext (.s 1) 1)),
                                 .mk .ps .no (.a (.alloc 2 [[(.str 0 0), (.bool false)]])),
                                 .mk .no .no (.e (.st 2 (.s 0) (.s 2))),
                                 .mk (.to q16) .no (.n (.mv (.s 1)))])
                                (.seq (.ops [.mk (.to q6) .no (.n (.mv r16))])
                                 .ret))
                               (.seq (.ops [.mk .ps .no (.n (.eq (.one .int) false r20 (.c (.int .i64 (.ofNat 29) 0)))),
                                 .mk (.to q209) .no (.n (.mv (.s 0)))])
                                (.cond r209 (.seq (.ops [.mk .ps .no (.n (.nilck r0)),
                                   .mk .ps .no (.n (.faddr 14 (.s 0))),
                                   .mk .ps .no (.n (.faddr 3 (.s 0))),
                                   .mk .ps .no (.n (.ldn 2 (.s 0))),
                                   .mk .ps .no (.a (.bslice 2 1 [(.str 0 0), (.bool false)] [(0, (.s 0))])),
                                   .mk .ps .no (.e (.call n_verify_checker_pop [r0, r1, (.s 0)])),
                                   .mk (.to q6) .no (.n (.mv (.s 0)))])
                                  .ret)
                                 (.seq (.ops [.mk .ps .no (.n (.eq (.one .int) false r20 (.c (.int .i64 (.ofNat 27) 0)))),
                                   .mk (.to q220) .no (.n (.mv (.s 0)))])
                                  (.cond r220 (.seq (.ops [.mk (.to q6) .no (.n (.mv (.c (.bool true))))])
                                    .ret)
                                   .skip))))))))))))))))))))))))))))))))
   (.seq (.ops [.mk .ps .no (.n (.ldn 2 r5)),
     .mk .ps .no (.e (.call n_verify_checker_object [r0, r1, (.s 0)])),
     .mk (.to q6) .no (.n (.mv (.s 0)))])
    .ret))))
 [.tmp q6] .no 0
/- (*kiln/verify.checker).where -/
def af_verify_checker_where : AF := .mk 3 (.seq (.ops [.mk (.to q6) .no (.n (.mv (.c (.int .i64 (.ofNat 0) 0))))])
 (.seq (.seq (.ops [.mk .ps .no (.n (.nilck r0)),
    .mk .ps .no (.n (.faddr 11 (.s 0))),
    .mk .ps .no (.n (.faddr 2 (.s 0))),
    .mk .ps .no (.n (.ld1 (.s 0))),
    .mk .ps .no (.n (.lenL (.s 0))),
    .mk (.to q14) .no (.n (.bin .geq r2 (.s 0)))])
   (.cond r14 (.seq (.ops [.mk (.to q6) .no (.n (.mv r1))])
     .ret)
    .skip))
  (.seq (.ops [.mk (.to q6) .no (.n (.mv r2))])
   .ret)))
 [.tmp q6] .no 0
/- (*kiln/hier.Table).Fits -/
def af_hier_Table_Fits : AF := .mk 3 (.seq (.ops [.mk (.to q4) .no (.a (.box r1)),
  .mk (.to q5) .no (.a (.box r2)),
  .mk (.to q6) .no (.n (.mv (.c (.bool false))))])
 (.seq (.block 0 (.seq (.ops [.mk .ps .no (.n (.ldn 2 r4)),
     .mk .ps .no (.n (.ldn 2 r5)),
     .mk .ps .no (.n (.eq (.agg [.str, .bool]) false (.s 1) (.s 0))),
     .mk (.to q7) .no (.n (.mv (.s 0)))])
    (.cond r7 (.seq (.ops [.mk (.to q6) .no (.n (.mv (.c (.bool true))))])
      .ret)
     (.seq (.reg [.op (.mk (.to q12) .no (.n (.ldn 2 r4))),
       .op (.mk (.to q13) .no (.e (.call n_ast_Nothing []))),
       .re q12 .no (.ldn 2 r4),
       .op (.mk (.to q14) .no (.n (.eq (.agg [.str, .bool]) false r12 r13))),
       .op (.mk (.to q11) .no (.n (.mv r14)))])
      (.cond r11 (.seq (.ops [.mk .ps .no (.n (.ldn 2 r5)),
         .mk .ps .no (.e (.call n_ast_Type_Object [(.s 0)])),
         .mk (.to q6) .no (.n (.mv (.s 0)))])
        .ret)
       .skip)))))
  (.seq (.ops [.mk .ps .no (.n (.ldn 2 r4)),
    .mk .ps .no (.e (.call n_ast_Type_Class [(.s 0)])),
    .mk .ps (.on (.s 0) true) (.n (.ldn 2 r5)),
    .mk .ps (.on (.s 1) true) (.e (.call n_ast_Type_Class [(.s 0)])),
    .mk .ps .no (.n (.pick (.s 2) (.s 0) (.c (.bool false)))),
    .mk .ps (.on (.s 0) true) (.n (.mv r0)),
    .mk .ps (.on (.s 1) true) (.n (.faddr 0 r4)),
    .mk .ps (.on (.s 2) true) (.n (.ld1 (.s 0))),
    .mk .ps (.on (.s 3) true) (.n (.faddr 0 r5)),
    .mk .ps (.on (.s 4) true) (.n (.ld1 (.s 0))),
    .mk .ps (.on (.s 5) true) (.e (.call n_hier_Table_Below [(.s 4), (.s 2), (.s 0)])),
    .mk .ps .no (.n (.pick (.s 6) (.s 0) (.c (.bool false)))),
    .mk (.to q6) .no (.n (.mv (.s 0)))])
   .ret)))
 [.tmp q6] .no 0
/- kiln/ast.Bool -/
def af_ast_Bool : AF := .mk 0 (.seq (.ops [.mk (.to q0) .no (.a (.alloc 2 [[(.str 0 0), (.bool false)]]))])
 (.seq (.ops [.mk .ps .no (.n (.build [(.str 0 0), (.bool false)] [(0, 1, (.c (.str 4 1819242338)))])),
   .mk .no .no (.e (.st 2 r0 (.s 0)))])
  .ret))
 [.celln q0 2] .no 0
/- kiln/ast.Nothing -/
def af_ast_Nothing : AF := .mk 0 (.seq (.ops [.mk (.to q0) .no (.a (.alloc 2 [[(.str 0 0), (.bool false)]]))])
 (.seq (.ops [.mk .ps .no (.n (.build [(.str 0 0), (.bool false)] [(0, 1, (.c (.str 4 1819047278)))])),
   .mk .no .no (.e (.st 2 r0 (.s 0)))])
  .ret))
 [.celln q0 2] .no 0
/- (kiln/ast.Type).Object -/
def af_ast_Type_Object : AF := .mk 1 (.seq (.ops [.mk (.to q1) .no (.a (.box r0)),
  .mk (.to q2) .no (.n (.mv (.c (.bool false))))])
 (.seq (.reg [.op (.mk (.to q3) .no (.n (.faddr 1 r1))),
   .op (.mk (.to q4) .no (.n (.ld1 r3))),
   .op (.mk (.to q5) .no (.n (.mv r4))),
   .op (.mk (.to q6) (.on r5 false) (.n (.ldn 2 r1))),
   .op (.mk (.to q7) (.on r5 false) (.e (.call n_ast_Type_Class [r6]))),
   .op (.mk (.to q8) .no (.n (.pick r5 (.c (.bool true)) r7))),
   .op (.mk (.to q9) .no (.n (.mv r8))),
   .op (.mk (.to q10) (.on r9 false) (.n (.ldn 2 r1))),
   .op (.mk (.to q11) (.on r9 false) (.e (.call n_ast_Nothing []))),
   .re q10 (.on r9 false) (.ldn 2 r1),
   .op (.mk (.to q12) (.on r9 false) (.n (.eq (.agg [.str, .bool]) false r10 r11))),
   .op (.mk (.to q13) .no (.n (.pick r9 (.c (.bool true)) r12))),
   .op (.mk (.to q2) .no (.n (.mv r13)))])
  .ret))
 [.tmp q2] .no 0
/- (kiln/ast.Type).Elem -/
def af_ast_Type_Elem : AF := .mk 1 (.seq (.ops [.mk (.to q1) .no (.a (.box r0)),
  .mk (.to q2) .no (.a (.alloc 2 [[(.str 0 0), (.bool false)]]))])
 (.seq (.ops [.mk .ps .no (.n (.faddr 0 r1)),
   .mk .ps .no (.n (.ld1 (.s 0))),
   .mk .ps .no (.n (.build [(.str 0 0), (.bool false)] [(0, 1, (.s 0))])),
   .mk .no .no (.e (.st 2 r2 (.s 0)))])
  .ret))
 [.celln q2 2] .no 0
/- slices.ContainsFunc[[]kiln/ast.Type,kiln/ast.Type] -/
def af_slices_ContainsFunc_ast_Type_ast_Type : AF := .mk 2 (.seq (.ops [.mk (.to q4) .no (.n (.mv (.c (.bool false))))])
 (.seq (.ops [.mk .ps .no (.e (.call n_slices_IndexFunc_ast_Type_ast_Type [r0, r1])),
   .mk .ps .no (.n (.bin .geq (.s 0) (.c (.int .i64 (.ofNat 0) 0)))),
   .mk (.to q4) .no (.n (.mv (.s 0)))])
  .ret))
 [.tmp q4] .no 0
/- (kiln/face.Face).Right$1 -/
def af_face_Face_Right_1 : AF := .mk 1 (.seq (.ops [.mk (.to q1) .no (.a (.box r0)),
  .mk (.to q2) .no (.n (.mv (.c (.bool false))))])
 (.seq (.ops [.mk .ps .no (.n (.ldn 2 r1)),
   .mk .ps .no (.e (.call n_face_Good [(.s 0)])),
   .mk .ps .no (.n (.not (.s 0))),
   .mk (.to q2) .no (.n (.mv (.s 0)))])
  .ret))
 [.tmp q2] .no 0
/- kiln/class.class -/
def af_class_class : AF := .mk 1 (.seq (.ops [.mk (.to q2) .no (.n (.mv (.c (.bool false))))])
 (.seq (.ops [.mk .ps .no (.e (.call n_ast_Of [r0])),
   .mk .ps .no (.e (.call n_ast_Type_Class [(.s 0)])),
   .mk .ps (.on (.s 0) true) (.n (.mv r0)),
   .mk .ps (.on (.s 1) true) (.n (.lenS (.s 0))),
   .mk .ps (.on (.s 2) true) (.n (.bin .leq (.s 0) (.c (.int .i64 (.ofNat 40) 0)))),
   .mk .ps .no (.n (.pick (.s 3) (.s 0) (.c (.bool false)))),
   .mk (.to q2) .no (.n (.mv (.s 0)))])
  .ret))
 [.tmp q2] .no 0
/- kiln/class.sig -/
def af_class_sig : AF := .mk 1 (.seq (.ops [.mk (.to q1) .no (.a (.box r0)),
  .mk (.to q2) .no (.n (.mv (.c (.bool false))))])
 (.seq (.ops [.mk .ps .no (.n (.ldn 5 r1)),
   .mk .ps .no (.a (.bslice 5 1 [(.str 0 0), (.bool false), .nils, (.str 0 0), (.bool false)] [(0, (.s 0))])),
   .mk .ps .no (.n (.build [(.str 0 0), (.str 0 0), .nils, .nils] [(0, 1, (.c (.str 1 65))), (3, 1, (.s 0))])),
   .mk .ps .no (.e (.call n_face_Face_Right [(.s 0)])),
   .mk (.to q2) .no (.n (.mv (.s 0)))])
  .ret))
 [.tmp q2] .no 0
/- (kiln/class.File).many$1 -/
def af_class_File_many_1 : AF := .mk 3 (.seq (.ops [.mk (.to q4) .no (.n (.mv (.c (.int .i64 (.ofNat 0) 0))))])
 (.seq (.seq (.ops [.mk (.to q5) .no (.n (.mv r0))])
   (.block 0 (.seq (.ops [.mk .ps .no (.n (.eq (.one .int) false r5 (.c (.int .i32 (.ofNat 110) 0)))),
      .mk (.to q6) .no (.n (.mv (.s 0)))])
     (.cond r6 (.seq (.ops [.mk .ps .no (.n (.faddr 4 r1)),
        .mk .ps .no (.n (.faddr 0 (.s 0))),
        .mk .ps .no (.n (.ld1 (.s 0))),
        .mk .ps .no (.n (.lenL (.s 0))),
        .mk (.to q4) .no (.n (.mv (.s 0)))])
       .ret)
      (.seq (.ops [.mk .ps .no (.n (.eq (.one .int) false r5 (.c (.int .i32 (.ofNat 99) 0)))),
        .mk (.to q12) .no (.n (.mv (.s 0)))])
       (.cond r12 (.seq (.ops [.mk .ps .no (.n (.faddr 4 r1)),
          .mk .ps .no (.n (.faddr 1 (.s 0))),
          .mk .ps .no (.n (.ld1 (.s 0))),
          .mk .ps .no (.n (.lenL (.s 0))),
          .mk (.to q4) .no (.n (.mv (.s 0)))])
         .ret)
        (.seq (.ops [.mk .ps .no (.n (.eq (.one .int) false r5 (.c (.int .i32 (.ofNat 116) 0)))),
          .mk (.to q18) .no (.n (.mv (.s 0)))])
         (.cond r18 (.seq (.ops [.mk .ps .no (.n (.faddr 4 r1)),
            .mk .ps .no (.n (.faddr 2 (.s 0))),
            .mk .ps .no (.n (.ld1 (.s 0))),
            .mk .ps .no (.n (.lenL (.s 0))),
            .mk (.to q4) .no (.n (.mv (.s 0)))])
           .ret)
          (.seq (.ops [.mk .ps .no (.n (.eq (.one .int) false r5 (.c (.int .i32 (.ofNat 102) 0)))),
            .mk (.to q24) .no (.n (.mv (.s 0)))])
           (.cond r24 (.seq (.ops [.mk .ps .no (.n (.faddr 4 r1)),
              .mk .ps .no (.n (.faddr 3 (.s 0))),
              .mk .ps .no (.n (.ld1 (.s 0))),
              .mk .ps .no (.n (.lenL (.s 0))),
              .mk (.to q4) .no (.n (.mv (.s 0)))])
             .ret)
            (.seq (.ops [.mk .ps .no (.n (.eq (.one .int) false r5 (.c (.int .i32 (.ofNat 109) 0)))),
              .mk (.to q30) .no (.n (.mv (.s 0)))])
             (.cond r30 (.seq (.ops [.mk .ps .no (.n (.faddr 4 r1)),
                .mk .ps .no (.n (.faddr 4 (.s 0))),
                .mk .ps .no (.n (.ld1 (.s 0))),
                .mk .ps .no (.n (.lenL (.s 0))),
                .mk (.to q4) .no (.n (.mv (.s 0)))])
               .ret)
              (.seq (.ops [.mk .ps .no (.n (.eq (.one .int) false r5 (.c (.int .i32 (.ofNat 108) 0)))),
                .mk (.to q36) .no (.n (.mv (.s 0)))])
               (.cond r36 (.seq (.ops [.mk .ps .no (.n (.faddr 0 r2)),
                  .mk .ps .no (.n (.ld1 (.s 0))),
                  .mk (.to q4) .no (.n (.mv (.s 0)))])
                 .ret)
                (.seq (.ops [.mk .ps .no (.n (.eq (.one .int) false r5 (.c (.int .i32 (.ofNat 106) 0)))),
                  .mk (.to q40) .no (.n (.mv (.s 0)))])
                 (.cond r40 (.seq (.ops [.mk .ps .no (.n (.faddr 2 r2)),
                    .mk .ps .no (.n (.ld1 (.s 0))),
                    .mk .ps .no (.n (.lenL (.s 0))),
                    .mk (.to q4) .no (.n (.mv (.s 0)))])
                   .ret)
                  .skip))))))))))))))))
  (.seq (.ops [.mk (.to q4) .no (.n (.mv (.c (.int .i64 (.ofNat 2) 0))))])
   .ret)))
 [.tmp q4] .no 0
/- kiln/verify.join -/
def af_verify_join : AF := .mk 3 (.seq (.ops [.mk (.to q4) .no (.a (.box r1)),
  .mk (.to q5) .no (.a (.box r2)),
  .mk (.to q6) .no (.a (.alloc 2 [[(.str 0 0), (.bool false)]])),
  .mk (.to q7) .no (.n (.mv (.c (.bool false))))])
 (.seq (.block 0 (.seq (.ops [.mk .ps .no (.n (.ldn 2 r4)),
     .mk .ps .no (.n (.ldn 2 r5)),
     .mk .ps .no (.n (.eq (.agg [.str, .bool]) false (.s 1) (.s 0))),
     .mk (.to q9) .no (.n (.mv (.s 0)))])
    (.cond r9 (.seq (.ops [.mk .ps .no (.n (.ldn 2 r4)),
       .mk .no .no (.e (.st 2 r6 (.s 0))),
       .mk (.to q7) .no (.n (.mv (.c (.bool true))))])
      .ret)
     (.seq (.reg [.op (.mk (.to q15) .no (.n (.ldn 2 r4))),
       .op (.mk (.to q16) .no (.e (.call n_ast_Nothing []))),
       .re q15 .no (.ldn 2 r4),
       .op (.mk (.to q17) .no (.n (.eq (.agg [.str, .bool]) false r15 r16))),
       .op (.mk (.to q18) .no (.n (.mv r17))),
       .op (.mk (.to q19) (.on r18 true) (.n (.ldn 2 r5))),
       .op (.mk (.to q20) (.on r18 true) (.e (.call n_ast_Type_Object [r19]))),
       .op (.mk (.to q21) .no (.n (.pick r18 r20 (.c (.bool false))))),
       .op (.mk (.to q14) .no (.n (.mv r21)))])
      (.cond r14 (.seq (.ops [.mk .ps .no (.n (.ldn 2 r5)),
         .mk .no .no (.e (.st 2 r6 (.s 0))),
         .mk (.to q7) .no (.n (.mv (.c (.bool true))))])
        .ret)
       (.seq (.reg [.op (.mk (.to q24) .no (.n (.ldn 2 r5))),
         .op (.mk (.to q25) .no (.e (.call n_ast_Nothing []))),
         .re q24 .no (.ldn 2 r5),
         .op (.mk (.to q26) .no (.n (.eq (.agg [.str, .bool]) false r24 r25))),
         .op (.mk (.to q27) .no (.n (.mv r26))),
         .op (.mk (.to q28) (.on r27 true) (.n (.ldn 2 r4))),
         .op (.mk (.to q29) (.on r27 true) (.e (.call n_ast_Type_Object [r28]))),
         .op (.mk (.to q30) .no (.n (.pick r27 r29 (.c (.bool false))))),
         .op (.mk (.to q23) .no (.n (.mv r30)))])
        (.cond r23 (.seq (.ops [.mk .ps .no (.n (.ldn 2 r4)),
           .mk .no .no (.e (.st 2 r6 (.s 0))),
           .mk (.to q7) .no (.n (.mv (.c (.bool true))))])
          .ret)
         (.seq (.ops [.mk .ps .no (.n (.ldn 2 r4)),
           .mk .ps .no (.e (.call n_ast_Type_Class [(.s 0)])),
           .mk .ps (.on (.s 0) true) (.n (.ldn 2 r5)),
           .mk .ps (.on (.s 1) true) (.e (.call n_ast_Type_Class [(.s 0)])),
           .mk .ps .no (.n (.pick (.s 2) (.s 0) (.c (.bool false)))),
           .mk (.to q32) .no (.n (.mv (.s 0)))])
          (.cond r32 (.seq (.reg [.op (.mk (.to q39) .no (.n (.mv r0))),
             .op (.mk (.to q40) .no (.n (.nilck r39))),
             .op (.mk (.to q41) .no (.n (.faddr 0 r40))),
             .op (.mk (.to q42) .no (.n (.ld1 r41))),
             .op (.mk (.to q43) .no (.n (.faddr 0 r4))),
             .op (.mk (.to q44) .no (.n (.ld1 r43))),
             .op (.mk (.to q45) .no (.n (.faddr 0 r5))),
             .op (.mk (.to q46) .no (.n (.ld1 r45))),
             .op (.mk (.to q47) .no (.e (.call n_hier_Table_Common [r42, r44, r46]))),
             .op (.mk (.to q8) .no (.n (.mv r47)))])
            (.seq (.ops [.mk (.to q49) .no (.n (.eq (.one .str) true r8 (.c (.str 0 0))))])
             (.cond r49 (.seq (.ops [.mk .ps .no (.e (.call n_ast_Of [r8])),
                .mk .no .no (.e (.st 2 r6 (.s 0))),
                .mk (.to q7) .no (.n (.mv (.c (.bool true))))])
               .ret)
              .skip)))
           .skip)))))))))
  (.seq (.ops [.mk .ps .no (.n (.build [(.str 0 0), (.bool false)] [])),
    .mk .no .no (.e (.st 2 r6 (.s 0))),
    .mk (.to q7) .no (.n (.mv (.c (.bool false))))])
   .ret)))
 [.celln q6 2, .tmp q7] .no 0
/- slices.Clone[[]kiln/ast.Type,kiln/ast.Type] -/
def af_slices_Clone_ast_Type_ast_Type : AF := .mk 1 (.seq (.ops [.mk (.to q2) .no (.n (.mv (.c .nils)))])
 (.seq (.seq (.ops [.mk (.to q4) .no (.n (.eq .sl false r0 (.c .nils)))])
   (.cond r4 (.seq (.ops [.mk (.to q2) .no (.n (.mv (.c .nils)))])
     .ret)
    .skip))
  (.seq (.ops [.mk .ps .no (.a (.bslice 2 0 [(.str 0 0), (.bool false)] [])),
    .mk .ps .no (.e (.app 2 24 (.s 0) r0)),
    .mk (.to q2) .no (.n (.mv (.s 0)))])
   .ret)))
 [.tmp q2] .no 0
/- (*kiln/verify.checker).push -/
def af_verify_checker_push : AF := .mk 3 (.seq (.ops [.mk (.to q5) .no (.a (.box r2)),
  .mk (.to q6) .no (.n (.mv (.c (.bool false))))])
 (.seq (.reg [.op (.mk (.to q7) .no (.n (.mv r1))),
   .op (.mk (.to q8) .no (.n (.mv r1))),
   .op (.mk (.to q9) .no (.n (.nilck r8))),
   .op (.mk (.to q10) .no (.n (.faddr 1 r9))),
   .op (.mk (.to q11) .no (.n (.ld1 r10))),
   .op (.mk (.to q12) .no (.n (.ldn 2 r5))),
   .op (.mk (.to q13) .no (.a (.bslice 2 1 [(.str 0 0), (.bool false)] [(0, r12)]))),
   .op (.mk (.to q14) .no (.e (.app 2 24 r11 r13))),
   .op (.mk (.to q15) .no (.n (.nilck r7))),
   .op (.mk (.to q16) .no (.n (.faddr 1 r15))),
   .op (.mk .no .no (.e (.st 1 r16 r14)))])
  (.seq (.reg [.op (.mk (.to q17) .no (.n (.mv r1))),
    .op (.mk (.to q18) .no (.n (.nilck r17))),
    .op (.mk (.to q19) .no (.n (.faddr 1 r18))),
    .op (.mk (.to q20) .no (.n (.ld1 r19))),
    .op (.mk (.to q21) .no (.n (.lenL r20))),
    .op (.mk (.to q22) .no (.n (.mv r0))),
    .op (.mk (.to q23) .no (.n (.nilck r22))),
    .op (.mk (.to q24) .no (.n (.faddr 11 r23))),
    .op (.mk (.to q25) .no (.n (.faddr 1 r24))),
    .op (.mk (.to q26) .no (.n (.ld1 r25))),
    .op (.mk (.to q27) .no (.n (.bin .leq r21 r26))),
    .op (.mk (.to q6) .no (.n (.mv r27)))])
   .ret)))
 [.tmp q6] .no 0
/- (*kiln/verify.state).take -/
def af_verify_state_take : AF := .mk 1 (.seq (.ops [.mk (.to q2) .no (.a (.alloc 2 [[(.str 0 0), (.bool false)]])),
  .mk (.to q3) .no (.n (.mv (.c (.bool false))))])
 (.seq (.ops [.mk .ps .no (.n (.nilck r0)),
   .mk .ps .no (.n (.faddr 1 (.s 0))),
   .mk .ps .no (.n (.ld1 (.s 0))),
   .mk .ps .no (.n (.lenL (.s 0))),
   .mk .ps .no (.n (.bin .sub (.s 0) (.c (.int .i64 (.ofNat 1) 0)))),
   .mk (.to q4) .no (.n (.mv (.s 0)))])
  (.seq (.seq (.ops [.mk (.to q13) .no (.n (.bin .lss r4 (.c (.int .i64 (.ofNat 0) 0))))])
    (.cond r13 (.seq (.ops [.mk .ps .no (.n (.build [(.str 0 0), (.bool false)] [])),
       .mk .no .no (.e (.st 2 r2 (.s 0))),
       .mk (.to q3) .no (.n (.mv (.c (.bool false))))])
      .ret)
     .skip))
   (.seq (.ops [.mk .ps .no (.n (.nilck r0)),
     .mk .ps .no (.n (.faddr 1 (.s 0))),
     .mk .ps .no (.n (.ld1 (.s 0))),
     .mk .ps .no (.n (.iaddr 2 (.s 0) r4)),
     .mk .ps .no (.n (.ldn 2 (.s 0))),
     .mk (.to q5) .no (.a (.alloc 2 [[(.str 0 0), (.bool false)]])),
     .mk .no .no (.e (.st 2 r5 (.s 0)))])
    (.seq (.ops [.mk .ps .no (.n (.nilck r0)),
      .mk .ps .no (.n (.faddr 1 (.s 0))),
      .mk .ps .no (.n (.ld1 (.s 0))),
      .mk .ps .no (.n (.slc 2 (.s 0) none (some r4) none)),
      .mk .ps .no (.n (.nilck r0)),
      .mk .ps .no (.n (.faddr 1 (.s 0))),
      .mk .no .no (.e (.st 1 (.s 0) (.s 2)))])
     (.seq (.ops [.mk .ps .no (.n (.ldn 2 r5)),
       .mk .no .no (.e (.st 2 r2 (.s 0))),
       .mk (.to q3) .no (.n (.mv (.c (.bool true))))])
      .ret))))))
 [.celln q2 2, .tmp q3] .no 0
/- (*kiln/verify.checker).pop -/
def af_verify_checker_pop : AF := .mk 3 (.seq (.ops [.mk (.to q6) .no (.n (.mv (.c (.bool false))))])
 (.seq (.seq (.ops [.mk .ps .no (.n (.lenL r2)),
    .mk .ps .no (.n (.bin .sub (.s 0) (.c (.int .i64 (.ofNat 1) 0)))),
    .mk (.to q7) .no (.n (.mv (.s 0)))])
   (.block 0 (.loop (.seq (.seq (.ops [.mk (.to q13) .no (.n (.bin .geq r7 (.c (.int .i64 (.ofNat 0) 0))))])
       (.cond r13 .skip
        (.exit 0)))
      (.seq (.block 1 (.seq (.ops [.mk .ps .no (.n (.nilck r1)),
          .mk .ps .no (.n (.faddr 1 (.s 0))),
          .mk .ps .no (.n (.ld1 (.s 0))),
          .mk .ps .no (.n (.lenL (.s 0))),
          .mk .ps .no (.n (.bin .sub (.s 0) (.c (.int .i64 (.ofNat 1) 0)))),
          .mk (.to q8) .no (.n (.mv (.s 0)))])
         (.seq (.seq (.reg [.op (.mk (.to q22) .no (.n (.mv r8))),
            .op (.mk (.to q23) .no (.n (.bin .lss r22 (.c (.int .i64 (.ofNat 0) 0))))),
            .op (.mk (.to q24) .no (.n (.mv r23))),
            .op (.mk (.to q25) (.on r24 false) (.n (.mv r0))),
            .op (.mk (.to q26) (.on r24 false) (.n (.nilck r25))),
            .op (.mk (.to q27) (.on r24 false) (.n (.faddr 0 r26))),
            .op (.mk (.to q28) (.on r24 false) (.n (.ld1 r27))),
            .op (.mk (.to q29) (.on r24 false) (.n (.nilck r28))),
            .op (.mk (.to q30) (.on r24 false) (.n (.faddr 0 r29))),
            .op (.mk (.to q31) (.on r24 false) (.n (.ld1 r30))),
            .op (.mk (.to q32) (.on r24 false) (.n (.mv r1))),
            .op (.mk (.to q33) (.on r24 false) (.n (.nilck r32))),
            .op (.mk (.to q34) (.on r24 false) (.n (.faddr 1 r33))),
            .op (.mk (.to q35) (.on r24 false) (.n (.ld1 r34))),
            .op (.mk (.to q36) (.on r24 false) (.n (.mv r8))),
            .op (.mk (.to q37) (.on r24 false) (.n (.iaddr 2 r35 r36))),
            .op (.mk (.to q38) (.on r24 false) (.n (.ldn 2 r37))),
            .op (.mk (.to q39) (.on r24 false) (.n (.mv r2))),
            .op (.mk (.to q40) (.on r24 false) (.n (.mv r7))),
            .op (.mk (.to q41) (.on r24 false) (.n (.iaddr 2 r39 r40))),
            .op (.mk (.to q42) (.on r24 false) (.n (.ldn 2 r41))),
            .op (.mk (.to q43) (.on r24 false) (.e (.call n_hier_Table_Fits [r31, r38, r42]))),
            .op (.mk (.to q44) (.on r24 false) (.n (.not r43))),
            .op (.mk (.to q45) .no (.n (.pick r24 (.c (.bool true)) r44)))])
           (.cond r45 (.seq (.ops [.mk (.to q6) .no (.n (.mv (.c (.bool false))))])
             .ret)
            .skip))
          (.ops [.mk .ps .no (.n (.nilck r1)),
           .mk .ps .no (.n (.faddr 1 (.s 0))),
           .mk .ps .no (.n (.ld1 (.s 0))),
           .mk .ps .no (.n (.slc 2 (.s 0) none (some r8) none)),
           .mk .ps .no (.n (.nilck r1)),
           .mk .ps .no (.n (.faddr 1 (.s 0))),
           .mk .no .no (.e (.st 1 (.s 0) (.s 2)))]))))
       (.ops [.mk .ps .no (.n (.bin .sub r7 (.c (.int .i64 (.ofNat 1) 0)))),
        .mk (.to q7) .no (.n (.mv (.s 0)))]))))))
  (.seq (.ops [.mk (.to q6) .no (.n (.mv (.c (.bool true))))])
   .ret)))
 [.tmp q6] .no 0
/- (*kiln/verify.checker).object -/
def af_verify_checker_object : AF := .mk 3 (.seq (.ops [.mk (.to q5) .no (.a (.box r2)),
  .mk (.to q6) .no (.n (.mv (.c (.bool false))))])
 (.seq (.seq (.ops [.mk .ps .no (.n (.faddr 0 r5)),
    .mk (.to q14) .no (.n (.ld1 (.s 0)))])
   (.block 0 (.seq (.ops [.mk .ps .no (.n (.eq (.one .int) false r14 (.c (.int .i64 (.ofNat 18) 0)))),
      .mk (.to q15) .no (.n (.mv (.s 0)))])
     (.cond r15 (.seq (.reg [.op (.mk (.to q17) .no (.n (.mv r0))),
        .op (.mk (.to q18) .no (.n (.mv r1))),
        .op (.mk (.to q19) .no (.n (.mv r0))),
        .op (.mk (.to q20) .no (.n (.nilck r19))),
        .op (.mk (.to q21) .no (.n (.faddr 1 r20))),
        .op (.mk (.to q22) .no (.n (.faddr 4 r21))),
        .op (.mk (.to q23) .no (.n (.faddr 1 r22))),
        .op (.mk (.to q24) .no (.n (.ld1 r23))),
        .op (.mk (.to q25) .no (.n (.faddr 1 r5))),
        .op (.mk (.to q26) .no (.n (.ld1 r25))),
        .op (.mk (.to q27) .no (.n (.iaddr 1 r24 r26))),
        .op (.mk (.to q28) .no (.n (.ld1 r27))),
        .op (.mk (.to q29) .no (.e (.call n_ast_Of [r28]))),
        .op (.mk (.to q30) .no (.e (.call n_verify_checker_push [r17, r18, r29]))),
        .op (.mk (.to q6) .no (.n (.mv r30)))])
       .ret)
      (.seq (.ops [.mk .ps .no (.n (.eq (.one .int) false r14 (.c (.int .i64 (.ofNat 19) 0)))),
        .mk (.to q31) .no (.n (.mv (.s 0)))])
       (.cond r31 (.seq (.reg [.op (.mk (.to q33) .no (.n (.mv r0))),
          .op (.mk (.to q34) .no (.n (.nilck r33))),
          .op (.mk (.to q35) .no (.n (.faddr 1 r34))),
          .op (.mk (.to q36) .no (.n (.faddr 4 r35))),
          .op (.mk (.to q37) .no (.n (.faddr 2 r36))),
          .op (.mk (.to q38) .no (.n (.ld1 r37))),
          .op (.mk (.to q39) .no (.n (.faddr 1 r5))),
          .op (.mk (.to q40) .no (.n (.ld1 r39))),
          .op (.mk (.to q41) .no (.n (.iaddr 2 r38 r40))),
          .op (.mk (.to q42) .no (.n (.faddr 1 r41))),
          .op (.mk (.to q43) .no (.n (.ld1 r42))),
          .op (.mk (.to q44) .no (.n (.mv r43))),
          .op (.mk (.to q45) (.on r44 true) (.n (.mv r0))),
          .op (.mk (.to q46) (.on r44 true) (.n (.mv r1))),
          .op (.mk (.to q47) (.on r44 true) (.e (.call n_ast_Int []))),
          .op (.mk (.to q48) (.on r44 true) (.a (.bslice 2 1 [(.str 0 0), (.bool false)] [(0, r47)]))),
          .op (.mk (.to q49) (.on r44 true) (.e (.call n_verify_checker_pop [r45, r46, r48]))),
          .op (.mk (.to q50) .no (.n (.pick r44 r49 (.c (.bool false))))),
          .op (.mk (.to q51) .no (.n (.mv r50))),
          .op (.mk (.to q52) (.on r51 true) (.n (.mv r0))),
          .op (.mk (.to q53) (.on r51 true) (.n (.mv r1))),
          .op (.mk (.to q54) (.on r51 true) (.n (.mv r0))),
          .op (.mk (.to q55) (.on r51 true) (.n (.nilck r54))),
          .op (.mk (.to q56) (.on r51 true) (.n (.faddr 1 r55))),
          .op (.mk (.to q57) (.on r51 true) (.n (.faddr 4 r56))),
          .op (.mk (.to q58) (.on r51 true) (.n (.faddr 2 r57))),
          .op (.mk (.to q59) (.on r51 true) (.n (.ld1 r58))),
          .op (.mk (.to q60) (.on r51 true) (.n (.faddr 1 r5))),
          .op (.mk (.to q61) (.on r51 true) (.n (.ld1 r60))),
          .op (.mk (.to q62) (.on r51 true) (.n (.iaddr 2 r59 r61))),
          .op (.mk (.to q63) (.on r51 true) (.n (.ldn 2 r62))),
          .op (.mk (.to q64) (.on r51 true) (.e (.call n_verify_checker_push [r52, r53, r63]))),
          .op (.mk (.to q65) .no (.n (.pick r51 r64 (.c (.bool false))))),
          .op (.mk (.to q6) .no (.n (.mv r65)))])
         .ret)
        (.seq (.seq (.ops [.mk .ps .no (.n (.eq (.one .int) false r14 (.c (.int .i64 (.ofNat 23) 0)))),
           .mk (.to q66) .no (.n (.mv (.s 0)))])
          (.cond r66 .skip
           (.ops [.mk .ps .no (.n (.eq (.one .int) false r14 (.c (.int .i64 (.ofNat 24) 0)))),
            .mk (.to q66) .no (.n (.mv (.s 0)))])))
         (.cond r66 (.seq (.ops [.mk .ps .no (.e (.call n_verify_state_take [r1])),
            .mk .ps .no (.n (.ext (.s 0) 0)),
            .mk .ps .no (.n (.ext (.s 1) 1)),
            .mk (.to q7) .no (.a (.alloc 2 [[(.str 0 0), (.bool false)]])),
            .mk .no .no (.e (.st 2 r7 (.s 1))),
            .mk (.to q8) .no (.n (.mv (.s 0)))])
           (.seq (.ops [.mk .ps .no (.e (.call n_ast_Bool [])),
             .mk (.to q9) .no (.a (.alloc 2 [[(.str 0 0), (.bool false)]])),
             .mk .no .no (.e (.st 2 r9 (.s 0)))])
            (.seq (.seq (.ops [.mk .ps .no (.n (.faddr 0 r5)),
               .mk .ps .no (.n (.ld1 (.s 0))),
               .mk (.to q77) .no (.n (.eq (.one .int) false (.s 0) (.c (.int .i64 (.ofNat 23) 0))))])
              (.cond r77 (.reg [.op (.mk (.to q78) .no (.n (.mv r0))),
                .op (.mk (.to q79) .no (.n (.nilck r78))),
                .op (.mk (.to q80) .no (.n (.faddr 1 r79))),
                .op (.mk (.to q81) .no (.n (.faddr 4 r80))),
                .op (.mk (.to q82) .no (.n (.faddr 1 r81))),
                .op (.mk (.to q83) .no (.n (.ld1 r82))),
                .op (.mk (.to q84) .no (.n (.faddr 1 r5))),
                .op (.mk (.to q85) .no (.n (.ld1 r84))),
                .op (.mk (.to q86) .no (.n (.iaddr 1 r83 r85))),
                .op (.mk (.to q87) .no (.n (.ld1 r86))),
                .op (.mk (.to q88) .no (.e (.call n_ast_Of [r87]))),
                .op (.mk .no .no (.e (.st 2 r9 r88)))])
               .skip))
             (.seq (.reg [.op (.mk (.to q89) .no (.n (.mv r8))),
               .op (.mk (.to q90) .no (.n (.mv r89))),
               .op (.mk (.to q91) (.on r90 true) (.n (.ldn 2 r7))),
               .op (.mk (.to q92) (.on r90 true) (.e (.call n_ast_Type_Class [r91]))),
               .op (.mk (.to q93) (.on r90 true) (.n (.mv r92))),
               .op (.mk (.to q94) (.on r93 false) (.n (.ldn 2 r7))),
               .op (.mk (.to q95) (.on r93 false) (.e (.call n_ast_Nothing []))),
               .re q94 (.on r93 false) (.ldn 2 r7),
               .op (.mk (.to q96) (.on r93 false) (.n (.eq (.agg [.str, .bool]) false r94 r95))),
               .op (.mk (.to q97) (.on r90 true) (.n (.pick r93 (.c (.bool true)) r96))),
               .op (.mk (.to q98) .no (.n (.pick r90 r97 (.c (.bool false))))),
               .op (.mk (.to q99) .no (.n (.mv r98))),
               .op (.mk (.to q100) (.on r99 true) (.n (.mv r0))),
               .op (.mk (.to q101) (.on r99 true) (.n (.mv r1))),
               .op (.mk (.to q102) (.on r99 true) (.n (.ldn 2 r9))),
               .op (.mk (.to q103) (.on r99 true) (.e (.call n_verify_checker_push [r100, r101, r102]))),
               .op (.mk (.to q104) .no (.n (.pick r99 r103 (.c (.bool false))))),
               .op (.mk (.to q6) .no (.n (.mv r104)))])
              .ret))))
          (.seq (.ops [.mk .ps .no (.n (.eq (.one .int) false r14 (.c (.int .i64 (.ofNat 16) 0)))),
            .mk (.to q105) .no (.n (.mv (.s 0)))])
           (.cond r105 (.seq (.reg [.op (.mk (.to q107) .no (.n (.mv r0))),
              .op (.mk (.to q108) .no (.n (.nilck r107))),
              .op (.mk (.to q109) .no (.n (.faddr 1 r108))),
              .op (.mk (.to q110) .no (.n (.faddr 4 r109))),
              .op (.mk (.to q111) .no (.n (.faddr 3 r110))),
              .op (.mk (.to q112) .no (.n (.ld1 r111))),
              .op (.mk (.to q113) .no (.n (.faddr 1 r5))),
              .op (.mk (.to q114) .no (.n (.ld1 r113))),
              .op (.mk (.to q115) .no (.n (.iaddr 4 r112 r114))),
              .op (.mk (.to q116) .no (.n (.ldn 4 r115))),
              .op (.mk (.to q10) .no (.a (.alloc 4 [[(.str 0 0), (.str 0 0), (.bool false), (.str 0 0)]]))),
              .op (.mk .no .no (.e (.st 4 r10 r116)))])
             (.seq (.ops [.mk .ps .no (.n (.faddr 3 r10)),
               .mk .ps .no (.n (.ld1 (.s 0))),
               .mk .ps .no (.e (.call n_ast_Of [(.s 0)])),
               .mk .ps .no (.a (.bslice 2 1 [(.str 0 0), (.bool false)] [(0, (.s 0))])),
               .mk .ps .no (.e (.call n_verify_checker_pop [r0, r1, (.s 0)])),
               .mk .ps (.on (.s 0) true) (.n (.mv r0)),
               .mk .ps (.on (.s 1) true) (.n (.mv r1)),
               .mk .ps (.on (.s 2) true) (.n (.faddr 0 r10)),
               .mk .ps (.on (.s 3) true) (.n (.faddr 1 (.s 0))),
               .mk .ps (.on (.s 4) true) (.n (.ldn 2 (.s 0))),
               .mk .ps (.on (.s 5) true) (.e (.call n_verify_checker_push [(.s 4), (.s 3), (.s 0)])),
               .mk .ps .no (.n (.pick (.s 6) (.s 0) (.c (.bool false)))),
               .mk (.to q6) .no (.n (.mv (.s 0)))])
              .ret))
            (.seq (.ops [.mk .ps .no (.n (.eq (.one .int) false r14 (.c (.int .i64 (.ofNat 17) 0)))),
              .mk (.to q132) .no (.n (.mv (.s 0)))])
             (.cond r132 (.seq (.reg [.op (.mk (.to q134) .no (.n (.mv r0))),
                .op (.mk (.to q135) .no (.n (.nilck r134))),
                .op (.mk (.to q136) .no (.n (.faddr 1 r135))),
                .op (.mk (.to q137) .no (.n (.faddr 4 r136))),
                .op (.mk (.to q138) .no (.n (.faddr 3 r137))),
                .op (.mk (.to q139) .no (.n (.ld1 r138))),
                .op (.mk (.to q140) .no (.n (.faddr 1 r5))),
                .op (.mk (.to q141) .no (.n (.ld1 r140))),
                .op (.mk (.to q142) .no (.n (.iaddr 4 r139 r141))),
                .op (.mk (.to q143) .no (.n (.ldn 4 r142))),
                .op (.mk (.to q11) .no (.a (.alloc 4 [[(.str 0 0), (.str 0 0), (.bool false), (.str 0 0)]]))),
                .op (.mk .no .no (.e (.st 4 r11 r143)))])
               (.seq (.reg [.op (.mk (.to q144) .no (.n (.mv r0))),
                 .op (.mk (.to q145) .no (.n (.mv r1))),
                 .op (.mk (.to q146) .no (.n (.faddr 3 r11))),
                 .op (.mk (.to q147) .no (.n (.ld1 r146))),
                 .op (.mk (.to q149) .no (.n (.faddr 0 r11))),
                 .op (.mk (.to q150) .no (.n (.faddr 1 r149))),
                 .op (.mk (.to q151) .no (.n (.ldn 2 r150))),
                 .op (.mk (.to q148) .no (.e (.call n_ast_Of [r147]))),
                 .re q151 .no (.ldn 2 r150),
                 .op (.mk (.to q152) .no (.a (.bslice 2 2 [(.str 0 0), (.bool false)] [(0, r148), (1, r151)]))),
                 .op (.mk (.to q153) .no (.e (.call n_verify_checker_pop [r144, r145, r152]))),
                 .op (.mk (.to q6) .no (.n (.mv r153)))])
                .ret))
              (.seq (.seq (.ops [.mk .ps .no (.n (.eq (.one .int) false r14 (.c (.int .i64 (.ofNat 25) 0)))),
                 .mk (.to q154) .no (.n (.mv (.s 0)))])
                (.cond r154 .skip
                 (.ops [.mk .ps .no (.n (.eq (.one .int) false r14 (.c (.int .i64 (.ofNat 26) 0)))),
                  .mk (.to q154) .no (.n (.mv (.s 0)))])))
               (.cond r154 (.seq (.reg [.op (.mk (.to q157) .no (.n (.mv r0))),
                  .op (.mk (.to q158) .no (.n (.nilck r157))),
                  .op (.mk (.to q159) .no (.n (.faddr 1 r158))),
                  .op (.mk (.to q160) .no (.n (.faddr 4 r159))),
                  .op (.mk (.to q161) .no (.n (.faddr 4 r160))),
                  .op (.mk (.to q162) .no (.n (.ld1 r161))),
                  .op (.mk (.to q163) .no (.n (.faddr 1 r5))),
                  .op (.mk (.to q164) .no (.n (.ld1 r163))),
                  .op (.mk (.to q165) .no (.n (.iaddr 6 r162 r164))),
                  .op (.mk (.to q166) .no (.n (.ldn 6 r165))),
                  .op (.mk (.to q12) .no (.a (.alloc 6 [[(.str 0 0), (.bool false), .nils, (.str 0 0), (.bool false), (.str 0 0)]]))),
                  .op (.mk .no .no (.e (.st 6 r12 r166)))])
                 (.seq (.seq (.ops [.mk .ps .no (.n (.faddr 0 r12)),
                    .mk .ps .no (.n (.faddr 1 (.s 0))),
                    .mk .ps .no (.n (.ld1 (.s 0))),
                    .mk .ps .no (.n (.faddr 0 r5)),
                    .mk .ps .no (.n (.ld1 (.s 0))),
                    .mk .ps .no (.n (.eq (.one .int) false (.s 0) (.c (.int .i64 (.ofNat 26) 0)))),
                    .mk (.to q173) .no (.n (.eq (.one .bool) true (.s 3) (.s 0)))])
                   (.cond r173 (.seq (.ops [.mk (.to q6) .no (.n (.mv (.c (.bool false))))])
                     .ret)
                    .skip))
                  (.seq (.seq (.ops [.mk .ps .no (.n (.faddr 0 r12)),
                     .mk .ps .no (.n (.faddr 2 (.s 0))),
                     .mk .ps .no (.n (.ld1 (.s 0))),
                     .mk .ps .no (.e (.call n_verify_checker_pop [r0, r1, (.s 0)])),
                     .mk .ps .no (.n (.not (.s 0))),
                     .mk .ps (.on (.s 0) false) (.n (.faddr 0 r5)),
                     .mk .ps (.on (.s 1) false) (.n (.ld1 (.s 0))),
                     .mk .ps (.on (.s 2) false) (.n (.eq (.one .int) false (.s 0) (.c (.int .i64 (.ofNat 25) 0)))),
                     .mk .ps (.on (.s 3) false) (.n (.mv (.s 0))),
                     .mk .ps (.on (.s 0) true) (.n (.mv r0)),
                     .mk .ps (.on (.s 1) true) (.n (.mv r1)),
                     .mk .ps (.on (.s 2) true) (.n (.faddr 5 r12)),
                     .mk .ps (.on (.s 3) true) (.n (.ld1 (.s 0))),
                     .mk .ps (.on (.s 4) true) (.e (.call n_ast_Of [(.s 0)])),
                     .mk .ps (.on (.s 5) true) (.a (.bslice 2 1 [(.str 0 0), (.bool false)] [(0, (.s 0))])),
                     .mk .ps (.on (.s 6) true) (.e (.call n_verify_checker_pop [(.s 5), (.s 4), (.s 0)])),
                     .mk .ps (.on (.s 7) true) (.n (.not (.s 0))),
                     .mk .ps (.on (.s 12) false) (.n (.pick (.s 8) (.s 0) (.c (.bool false)))),
                     .mk (.to q195) .no (.n (.pick (.s 13) (.c (.bool true)) (.s 0)))])
                    (.cond r195 (.seq (.ops [.mk (.to q6) .no (.n (.mv (.c (.bool false))))])
                      .ret)
                     .skip))
                   (.seq (.ops [.mk .ps .no (.n (.faddr 0 r12)),
                     .mk .ps .no (.n (.faddr 3 (.s 0))),
                     .mk .ps .no (.n (.ldn 2 (.s 0))),
                     .mk .ps .no (.e (.call n_verify_checker_push [r0, r1, (.s 0)])),
                     .mk (.to q6) .no (.n (.mv (.s 0)))])
                    .ret))))
                .skip))))))))))))))
  (.seq (.ops [.mk .ps .no (.n (.ldn 2 r5)),
    .mk .ps .no (.e (.call n_verify_checker_array [r0, r1, (.s 0)])),
    .mk (.to q6) .no (.n (.mv (.s 0)))])
   .ret)))
 [.tmp q6] .no 0
/- (*kiln/hier.Table).Below -/
def af_hier_Table_Below : AF := .mk 3 (.seq (.ops [.mk (.to q6) .no (.n (.mv (.c (.bool false))))])
 (.seq (.ops [.mk .ps .no (.e (.call n_hier_Table_Above [r0, r1])),
   .mk .ps .no (.n (.ext (.s 0) 0)),
   .mk .ps .no (.n (.ext (.s 1) 1)),
   .mk (.to q7) .no (.n (.mv (.s 1)))])
  (.seq (.ops [.mk .ps .no (.e (.call n_slices_Contains_string_string [r7, r2])),
    .mk (.to q6) .no (.n (.mv (.s 0)))])
   .ret)))
 [.tmp q6] .no 0
/- slices.IndexFunc[[]kiln/ast.Type,kiln/ast.Type] -/
def af_slices_IndexFunc_ast_Type_ast_Type : AF := .mk 2 (.seq (.ops [.mk (.to q4) .no (.n (.mv (.c (.int .i64 (.ofNat 0) 0))))])
 (.seq (.seq (.ops [.mk (.to q7) .no (.n (.lenL r0)),
    .mk (.to q8) .no (.n (.mv (.c (.int .i64 (.ofNat 0) 0))))])
   (.block 0 (.loop (.seq (.ops [.mk (.to q9) .no (.n (.bin .lss r8 r7))])
      (.seq (.cond r9 .skip
        (.exit 0))
       (.seq (.block 1 (.seq (.ops [.mk (.to q5) .no (.n (.mv r8))])
          (.seq (.ops [.mk .ps .no (.n (.iaddr 2 r0 r5)),
            .mk .ps .no (.n (.ldn 2 (.s 0))),
            .mk (.to q16) .no (.e (.callv r1 [(.s 0)]))])
           (.cond r16 (.seq (.ops [.mk (.to q4) .no (.n (.mv r5))])
             .ret)
            .skip))))
        (.ops [.mk .ps .no (.n (.bin .add r8 (.c (.int .i64 (.ofNat 1) 0)))),
         .mk (.to q8) .no (.n (.mv (.s 0)))])))))))
  (.seq (.ops [.mk (.to q4) .no (.n (.mv (.c (.int .i64 (.negSucc 0) 0))))])
   .ret)))
 [.tmp q4] .no 0
/- (*kiln/hier.Table).Common -/
def af_hier_Table_Common : AF := .mk 3 (.seq (.ops [.mk (.to q6) .no (.n (.mv (.c (.str 0 0))))])
 (.seq (.ops [.mk .ps .no (.e (.call n_hier_Table_Above [r0, r1])),
   .mk .ps .no (.n (.ext (.s 0) 0)),
   .mk .ps .no (.n (.ext (.s 1) 1)),
   .mk (.to q7) .no (.n (.mv (.s 1)))])
  (.seq (.seq (.ops [.mk (.to q17) .no (.n (.mv r7)),
     .mk (.to q18) .no (.n (.lenL r17)),
     .mk (.to q19) .no (.n (.mv (.c (.int .i64 (.ofNat 0) 0))))])
    (.block 0 (.loop (.seq (.ops [.mk (.to q20) .no (.n (.bin .lss r19 r18))])
       (.seq (.cond r20 .skip
         (.exit 0))
        (.seq (.block 1 (.seq (.ops [.mk .ps .no (.n (.iaddr 1 r17 r19)),
            .mk .ps .no (.n (.ld1 (.s 0))),
            .mk (.to q10) .no (.n (.mv (.s 0)))])
           (.seq (.ops [.mk (.to q26) .no (.e (.call n_hier_Table_Below [r0, r2, r10]))])
            (.cond r26 (.seq (.ops [.mk (.to q6) .no (.n (.mv r10))])
              .ret)
             .skip))))
         (.ops [.mk .ps .no (.n (.bin .add r19 (.c (.int .i64 (.ofNat 1) 0)))),
          .mk (.to q19) .no (.n (.mv (.s 0)))])))))))
   (.seq (.ops [.mk (.to q6) .no (.n (.mv (.c (.str 0 0))))])
    .ret))))
 [.tmp q6] .no 0
/- (*kiln/verify.checker).array -/
def af_verify_checker_array : AF := .mk 3 (.seq (.ops [.mk (.to q5) .no (.a (.box r2)),
  .mk (.to q6) .no (.n (.mv (.c (.bool false))))])
 (.seq (.seq (.ops [.mk .ps .no (.n (.faddr 0 r5)),
    .mk .ps .no (.n (.ld1 (.s 0))),
    .mk (.to q12) .no (.n (.eq (.one .int) false (.s 0) (.c (.int .i64 (.ofNat 22) 0))))])
   (.cond r12 (.seq (.ops [.mk .ps .no (.e (.call n_verify_state_take [r1])),
      .mk .ps .no (.n (.ext (.s 0) 0)),
      .mk .ps .no (.n (.ext (.s 1) 1)),
      .mk (.to q7) .no (.a (.alloc 2 [[(.str 0 0), (.bool false)]])),
      .mk .no .no (.e (.st 2 r7 (.s 1))),
      .mk (.to q8) .no (.n (.mv (.s 0)))])
     (.seq (.reg [.op (.mk (.to q18) .no (.n (.mv r8))),
       .op (.mk (.to q19) .no (.n (.mv r18))),
       .op (.mk (.to q20) (.on r19 true) (.n (.faddr 1 r7))),
       .op (.mk (.to q21) (.on r19 true) (.n (.ld1 r20))),
       .op (.mk (.to q22) (.on r19 true) (.n (.mv r21))),
       .op (.mk (.to q23) (.on r22 false) (.n (.ldn 2 r7))),
       .op (.mk (.to q24) (.on r22 false) (.e (.call n_ast_Nothing []))),
       .re q23 (.on r22 false) (.ldn 2 r7),
       .op (.mk (.to q25) (.on r22 false) (.n (.eq (.agg [.str, .bool]) false r23 r24))),
       .op (.mk (.to q26) (.on r19 true) (.n (.pick r22 (.c (.bool true)) r25))),
       .op (.mk (.to q27) .no (.n (.pick r19 r26 (.c (.bool false))))),
       .op (.mk (.to q28) .no (.n (.mv r27))),
       .op (.mk (.to q29) (.on r28 true) (.n (.mv r0))),
       .op (.mk (.to q30) (.on r28 true) (.n (.mv r1))),
       .op (.mk (.to q31) (.on r28 true) (.e (.call n_ast_Int []))),
       .op (.mk (.to q32) (.on r28 true) (.e (.call n_verify_checker_push [r29, r30, r31]))),
       .op (.mk (.to q33) .no (.n (.pick r28 r32 (.c (.bool false))))),
       .op (.mk (.to q6) .no (.n (.mv r33)))])
      .ret))
    .skip))
  (.seq (.reg [.op (.mk (.to q34) .no (.n (.mv r0))),
    .op (.mk (.to q35) .no (.n (.nilck r34))),
    .op (.mk (.to q36) .no (.n (.faddr 1 r35))),
    .op (.mk (.to q37) .no (.n (.faddr 4 r36))),
    .op (.mk (.to q38) .no (.n (.faddr 2 r37))),
    .op (.mk (.to q39) .no (.n (.ld1 r38))),
    .op (.mk (.to q40) .no (.n (.faddr 1 r5))),
    .op (.mk (.to q41) .no (.n (.ld1 r40))),
    .op (.mk (.to q42) .no (.n (.iaddr 2 r39 r41))),
    .op (.mk (.to q43) .no (.n (.ldn 2 r42))),
    .op (.mk (.to q9) .no (.a (.alloc 2 [[(.str 0 0), (.bool false)]]))),
    .op (.mk .no .no (.e (.st 2 r9 r43)))])
   (.seq (.seq (.ops [.mk .ps .no (.n (.faddr 0 r5)),
      .mk .ps .no (.n (.ld1 (.s 0))),
      .mk (.to q46) .no (.n (.eq (.one .int) false (.s 0) (.c (.int .i64 (.ofNat 21) 0))))])
     (.cond r46 (.seq (.reg [.op (.mk (.to q47) .no (.n (.faddr 1 r9))),
        .op (.mk (.to q48) .no (.n (.ld1 r47))),
        .op (.mk (.to q49) .no (.n (.mv r48))),
        .op (.mk (.to q50) (.on r49 true) (.n (.mv r0))),
        .op (.mk (.to q51) (.on r49 true) (.n (.mv r1))),
        .op (.mk (.to q52) (.on r49 true) (.n (.ldn 2 r9))),
        .op (.mk (.to q54) (.on r49 true) (.n (.ldn 2 r9))),
        .op (.mk (.to q53) (.on r49 true) (.e (.call n_ast_Int []))),
        .re q52 (.on r49 true) (.ldn 2 r9),
        .re q54 (.on r49 true) (.ldn 2 r9),
        .op (.mk (.to q55) (.on r49 true) (.e (.call n_ast_Type_Elem [r54]))),
        .re q52 (.on r49 true) (.ldn 2 r9),
        .op (.mk (.to q56) (.on r49 true) (.a (.bslice 2 3 [(.str 0 0), (.bool false)] [(0, r52), (1, r53), (2, r55)]))),
        .op (.mk (.to q57) (.on r49 true) (.e (.call n_verify_checker_pop [r50, r51, r56]))),
        .op (.mk (.to q58) .no (.n (.pick r49 r57 (.c (.bool false))))),
        .op (.mk (.to q6) .no (.n (.mv r58)))])
       .ret)
      .skip))
    (.seq (.reg [.op (.mk (.to q59) .no (.n (.faddr 1 r9))),
      .op (.mk (.to q60) .no (.n (.ld1 r59))),
      .op (.mk (.to q61) .no (.n (.mv r60))),
      .op (.mk (.to q62) (.on r61 true) (.n (.mv r0))),
      .op (.mk (.to q63) (.on r61 true) (.n (.mv r1))),
      .op (.mk (.to q64) (.on r61 true) (.n (.ldn 2 r9))),
      .op (.mk (.to q65) (.on r61 true) (.e (.call n_ast_Int []))),
      .re q64 (.on r61 true) (.ldn 2 r9),
      .op (.mk (.to q66) (.on r61 true) (.a (.bslice 2 2 [(.str 0 0), (.bool false)] [(0, r64), (1, r65)]))),
      .op (.mk (.to q67) (.on r61 true) (.e (.call n_verify_checker_pop [r62, r63, r66]))),
      .op (.mk (.to q68) .no (.n (.pick r61 r67 (.c (.bool false))))),
      .op (.mk (.to q69) .no (.n (.mv r68))),
      .op (.mk (.to q70) (.on r69 true) (.n (.mv r0))),
      .op (.mk (.to q71) (.on r69 true) (.n (.mv r1))),
      .op (.mk (.to q72) (.on r69 true) (.n (.ldn 2 r9))),
      .op (.mk (.to q73) (.on r69 true) (.e (.call n_ast_Type_Elem [r72]))),
      .op (.mk (.to q74) (.on r69 true) (.e (.call n_verify_checker_push [r70, r71, r73]))),
      .op (.mk (.to q75) .no (.n (.pick r69 r74 (.c (.bool false))))),
      .op (.mk (.to q6) .no (.n (.mv r75)))])
     .ret)))))
 [.tmp q6] .no 0
def F : T AF := (.n none (.n none (.n none (.n none (.n none (.n (some af_kilnlaw15_i) (.n (some af_face_Face_Field) .e .e) (.n (some af_verify_join) .e .e)) (.n (some af_hier_Table_Known) (.n (some af_ast_Bool) .e .e) .e)) (.n none (.n (some af_hier_New) (.n (some af_verify_state_clone) .e .e) (.n (some af_hier_Table_Below) .e .e)) .e)) (.n none (.n (some af_hier_Table_Above) (.n (some af_op_Code_Ends) (.n (some af_ast_Type_Class) .e .e) (.n (some af_verify_checker_pop) .e .e)) (.n none (.n (some af_ast_Type_Elem) .e .e) .e)) (.n none (.n (some af_hier_Table_Field) .e .e) (.n (some af_class_Pool_right) (.n (some af_face_Face_Right_1) .e .e) .e)))) (.n none (.n none (.n (some af_link_Image_Find) (.n (some af_kilnlaw15_one) (.n (some af_slices_Index_string_string) .e .e) (.n (some af_verify_checker_push) .e .e)) (.n (some af_verify_checker_run) (.n (some af_ast_Nothing) .e .e) .e)) (.n (some af_kilnlaw15_head) (.n (some af_link_Image_pool) (.n (some af_verify_checker_where) .e .e) .e) .e)) (.n none (.n (some af_link_Image_File) .e (.n (some af_hier_Table_Method) .e .e)) (.n (some af_ast_Int) (.n (some af_face_Sig_Same) (.n (some af_hier_Table_Fits) .e .e) (.n (some af_hier_Table_Common) .e .e)) (.n (some af_class_File_many) (.n (some af_class_sig) .e .e) .e))))) (.n none (.n none (.n (some af_kilnlaw15_VerifyFaults) (.n none (.n (some af_kilnlaw15_check) (.n (some af_slices_Equal_ast_Type_ast_Type) .e .e) (.n (some af_slices_Clone_ast_Type_ast_Type) .e .e)) .e) (.n none (.n (some af_hier_Table_Check) (.n (some af_verify_checker_step) .e .e) .e) (.n (some af_op_Code_Known) .e .e))) (.n none (.n none (.n none .e (.n (some af_verify_checker_object) .e .e)) .e) (.n none (.n (some af_face_Face_Method) .e (.n (some af_slices_IndexFunc_ast_Type_ast_Type) .e .e)) (.n (some af_op_Instr_Right) (.n (some af_class_class) .e .e) .e)))) (.n none (.n none (.n (some af_link_Image_Names) (.n (some af_op_Code_Pool) (.n (some af_face_Good) .e .e) (.n (some af_verify_state_take) .e .e)) (.n (some af_ast_Of) (.n (some af_ast_Type_Object) .e .e) .e)) (.n (some af_verify_Check) (.n (some af_hier_Table_Face) .e .e) (.n (some af_face_Face_Right) (.n (some af_slices_ContainsFunc_ast_Type_ast_Type) .e .e) .e))) (.n (some af_link_Link) (.n none (.n (some af_class_File_Right) (.n (some af_verify_checker_flow) .e .e) .e) .e) (.n none (.n (some af_slices_Contains_string_string) .e (.n (some af_verify_checker_array) .e .e)) (.n (some af_hier_twice) (.n (some af_class_File_many_1) .e .e) .e))))))
theorem at_kilnlaw15_VerifyFaults : T.get F n_kilnlaw15_VerifyFaults = some af_kilnlaw15_VerifyFaults := by kernel_rfl
theorem at_link_Link : T.get F n_link_Link = some af_link_Link := by kernel_rfl
theorem at_link_Image_Find : T.get F n_link_Image_Find = some af_link_Image_Find := by kernel_rfl
theorem at_link_Image_Names : T.get F n_link_Image_Names = some af_link_Image_Names := by kernel_rfl
theorem at_hier_Table_Above : T.get F n_hier_Table_Above = some af_hier_Table_Above := by kernel_rfl
theorem at_link_Image_File : T.get F n_link_Image_File = some af_link_Image_File := by kernel_rfl
theorem at_kilnlaw15_head : T.get F n_kilnlaw15_head = some af_kilnlaw15_head := by kernel_rfl
theorem at_verify_Check : T.get F n_verify_Check = some af_verify_Check := by kernel_rfl
theorem at_ast_Int : T.get F n_ast_Int = some af_ast_Int := by kernel_rfl
theorem at_kilnlaw15_i : T.get F n_kilnlaw15_i = some af_kilnlaw15_i := by kernel_rfl
theorem at_kilnlaw15_check : T.get F n_kilnlaw15_check = some af_kilnlaw15_check := by kernel_rfl
theorem at_kilnlaw15_one : T.get F n_kilnlaw15_one = some af_kilnlaw15_one := by kernel_rfl
theorem at_op_Code_Pool : T.get F n_op_Code_Pool = some af_op_Code_Pool := by kernel_rfl
theorem at_op_Code_Ends : T.get F n_op_Code_Ends = some af_op_Code_Ends := by kernel_rfl
theorem at_class_File_Right : T.get F n_class_File_Right = some af_class_File_Right := by kernel_rfl
theorem at_hier_New : T.get F n_hier_New = some af_hier_New := by kernel_rfl
theorem at_hier_Table_Check : T.get F n_hier_Table_Check = some af_hier_Table_Check := by kernel_rfl
theorem at_link_Image_pool : T.get F n_link_Image_pool = some af_link_Image_pool := by kernel_rfl
theorem at_hier_Table_Face : T.get F n_hier_Table_Face = some af_hier_Table_Face := by kernel_rfl
theorem at_hier_Table_Field : T.get F n_hier_Table_Field = some af_hier_Table_Field := by kernel_rfl
theorem at_face_Face_Method : T.get F n_face_Face_Method = some af_face_Face_Method := by kernel_rfl
theorem at_face_Sig_Same : T.get F n_face_Sig_Same = some af_face_Sig_Same := by kernel_rfl
theorem at_slices_Contains_string_string : T.get F n_slices_Contains_string_string = some af_slices_Contains_string_string := by kernel_rfl
theorem at_hier_Table_Known : T.get F n_hier_Table_Known = some af_hier_Table_Known := by kernel_rfl
theorem at_verify_checker_run : T.get F n_verify_checker_run = some af_verify_checker_run := by kernel_rfl
theorem at_ast_Of : T.get F n_ast_Of = some af_ast_Of := by kernel_rfl
theorem at_hier_Table_Method : T.get F n_hier_Table_Method = some af_hier_Table_Method := by kernel_rfl
theorem at_op_Code_Known : T.get F n_op_Code_Known = some af_op_Code_Known := by kernel_rfl
theorem at_face_Face_Right : T.get F n_face_Face_Right = some af_face_Face_Right := by kernel_rfl
theorem at_class_Pool_right : T.get F n_class_Pool_right = some af_class_Pool_right := by kernel_rfl
theorem at_op_Instr_Right : T.get F n_op_Instr_Right = some af_op_Instr_Right := by kernel_rfl
theorem at_class_File_many : T.get F n_class_File_many = some af_class_File_many := by kernel_rfl
theorem at_hier_twice : T.get F n_hier_twice = some af_hier_twice := by kernel_rfl
theorem at_face_Face_Field : T.get F n_face_Face_Field = some af_face_Face_Field := by kernel_rfl
theorem at_slices_Equal_ast_Type_ast_Type : T.get F n_slices_Equal_ast_Type_ast_Type = some af_slices_Equal_ast_Type_ast_Type := by kernel_rfl
theorem at_slices_Index_string_string : T.get F n_slices_Index_string_string = some af_slices_Index_string_string := by kernel_rfl
theorem at_face_Good : T.get F n_face_Good = some af_face_Good := by kernel_rfl
theorem at_ast_Type_Class : T.get F n_ast_Type_Class = some af_ast_Type_Class := by kernel_rfl
theorem at_verify_checker_flow : T.get F n_verify_checker_flow = some af_verify_checker_flow := by kernel_rfl
theorem at_verify_state_clone : T.get F n_verify_state_clone = some af_verify_state_clone := by kernel_rfl
theorem at_verify_checker_step : T.get F n_verify_checker_step = some af_verify_checker_step := by kernel_rfl
theorem at_verify_checker_where : T.get F n_verify_checker_where = some af_verify_checker_where := by kernel_rfl
theorem at_hier_Table_Fits : T.get F n_hier_Table_Fits = some af_hier_Table_Fits := by kernel_rfl
theorem at_ast_Bool : T.get F n_ast_Bool = some af_ast_Bool := by kernel_rfl
theorem at_ast_Nothing : T.get F n_ast_Nothing = some af_ast_Nothing := by kernel_rfl
theorem at_ast_Type_Object : T.get F n_ast_Type_Object = some af_ast_Type_Object := by kernel_rfl
theorem at_ast_Type_Elem : T.get F n_ast_Type_Elem = some af_ast_Type_Elem := by kernel_rfl
theorem at_slices_ContainsFunc_ast_Type_ast_Type : T.get F n_slices_ContainsFunc_ast_Type_ast_Type = some af_slices_ContainsFunc_ast_Type_ast_Type := by kernel_rfl
theorem at_face_Face_Right_1 : T.get F n_face_Face_Right_1 = some af_face_Face_Right_1 := by kernel_rfl
theorem at_class_class : T.get F n_class_class = some af_class_class := by kernel_rfl
theorem at_class_sig : T.get F n_class_sig = some af_class_sig := by kernel_rfl
theorem at_class_File_many_1 : T.get F n_class_File_many_1 = some af_class_File_many_1 := by kernel_rfl
theorem at_verify_join : T.get F n_verify_join = some af_verify_join := by kernel_rfl
theorem at_slices_Clone_ast_Type_ast_Type : T.get F n_slices_Clone_ast_Type_ast_Type = some af_slices_Clone_ast_Type_ast_Type := by kernel_rfl
theorem at_verify_checker_push : T.get F n_verify_checker_push = some af_verify_checker_push := by kernel_rfl
theorem at_verify_state_take : T.get F n_verify_state_take = some af_verify_state_take := by kernel_rfl
theorem at_verify_checker_pop : T.get F n_verify_checker_pop = some af_verify_checker_pop := by kernel_rfl
theorem at_verify_checker_object : T.get F n_verify_checker_object = some af_verify_checker_object := by kernel_rfl
theorem at_hier_Table_Below : T.get F n_hier_Table_Below = some af_hier_Table_Below := by kernel_rfl
theorem at_slices_IndexFunc_ast_Type_ast_Type : T.get F n_slices_IndexFunc_ast_Type_ast_Type = some af_slices_IndexFunc_ast_Type_ast_Type := by kernel_rfl
theorem at_hier_Table_Common : T.get F n_hier_Table_Common = some af_hier_Table_Common := by kernel_rfl
theorem at_verify_checker_array : T.get F n_verify_checker_array = some af_verify_checker_array := by kernel_rfl
end Go.A1

