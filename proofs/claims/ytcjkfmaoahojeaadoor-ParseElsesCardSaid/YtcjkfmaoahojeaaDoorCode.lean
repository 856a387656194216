/- Part of a proof: texts W3Code of the engine and what is proved with it; nothing is assumed. -/
import Derived.Test.YtcjkfmaoahojeaaDoorEngE
set_option linter.unusedVariables false
set_option linter.unusedSimpArgs false
/- The functions, as abstract code: printed by program. -/
namespace Go.P2
open Go.Eng
set_option maxRecDepth 100000
def q0 : P2 := .h
def r0 : X := .r q0
def q1 : P2 := .z q0
def r1 : X := .r q1
def q2 : P2 := .o q0
def r2 : X := .r q2
def q3 : P2 := .z q1
def r3 : X := .r q3
def q4 : P2 := .o q1
def r4 : X := .r q4
def q5 : P2 := .z q2
def r5 : X := .r q5
def q6 : P2 := .o q2
def r6 : X := .r q6
def q7 : P2 := .z q3
def r7 : X := .r q7
def q8 : P2 := .o q3
def r8 : X := .r q8
def q9 : P2 := .z q4
def r9 : X := .r q9
def q10 : P2 := .o q4
def r10 : X := .r q10
def q11 : P2 := .z q5
def r11 : X := .r q11
def q12 : P2 := .o q5
def r12 : X := .r q12
def q13 : P2 := .z q6
def r13 : X := .r q13
def q14 : P2 := .o q6
def r14 : X := .r q14
def q15 : P2 := .z q7
def r15 : X := .r q15
def q16 : P2 := .o q7
def r16 : X := .r q16
def q17 : P2 := .z q8
def r17 : X := .r q17
def q18 : P2 := .o q8
def r18 : X := .r q18
def q19 : P2 := .z q9
def r19 : X := .r q19
def q20 : P2 := .o q9
def r20 : X := .r q20
def q21 : P2 := .z q10
def r21 : X := .r q21
def q22 : P2 := .o q10
def r22 : X := .r q22
def q23 : P2 := .z q11
def r23 : X := .r q23
def q24 : P2 := .o q11
def r24 : X := .r q24
def q25 : P2 := .z q12
def r25 : X := .r q25
def q26 : P2 := .o q12
def r26 : X := .r q26
def q27 : P2 := .z q13
def r27 : X := .r q27
def q28 : P2 := .o q13
def r28 : X := .r q28
def q29 : P2 := .z q14
def r29 : X := .r q29
def q30 : P2 := .o q14
def r30 : X := .r q30
def q31 : P2 := .z q15
def r31 : X := .r q31
def q32 : P2 := .o q15
def r32 : X := .r q32
def q33 : P2 := .z q16
def r33 : X := .r q33
def q34 : P2 := .o q16
def r34 : X := .r q34
def q35 : P2 := .z q17
def r35 : X := .r q35
def q36 : P2 := .o q17
def r36 : X := .r q36
def q37 : P2 := .z q18
def r37 : X := .r q37
def q38 : P2 := .o q18
def r38 : X := .r q38
def q39 : P2 := .z q19
def r39 : X := .r q39
def q40 : P2 := .o q19
def r40 : X := .r q40
def q41 : P2 := .z q20
def r41 : X := .r q41
def q42 : P2 := .o q20
def r42 : X := .r q42
def q43 : P2 := .z q21
def r43 : X := .r q43
def q44 : P2 := .o q21
def r44 : X := .r q44
def q45 : P2 := .z q22
def r45 : X := .r q45
def q46 : P2 := .o q22
def r46 : X := .r q46
def q47 : P2 := .z q23
def r47 : X := .r q47
def q48 : P2 := .o q23
def r48 : X := .r q48
def q49 : P2 := .z q24
def r49 : X := .r q49
def q50 : P2 := .o q24
def r50 : X := .r q50
def q51 : P2 := .z q25
def r51 : X := .r q51
def q52 : P2 := .o q25
def r52 : X := .r q52
def q53 : P2 := .z q26
def r53 : X := .r q53
def q54 : P2 := .o q26
def r54 : X := .r q54
def q55 : P2 := .z q27
def r55 : X := .r q55
def q56 : P2 := .o q27
def r56 : X := .r q56
def q57 : P2 := .z q28
def r57 : X := .r q57
def q58 : P2 := .o q28
def r58 : X := .r q58
def q59 : P2 := .z q29
def r59 : X := .r q59
def q60 : P2 := .o q29
def r60 : X := .r q60
def q61 : P2 := .z q30
def r61 : X := .r q61
def q62 : P2 := .o q30
def r62 : X := .r q62
def q63 : P2 := .z q31
def r63 : X := .r q63
def q64 : P2 := .o q31
def r64 : X := .r q64
def q65 : P2 := .z q32
def r65 : X := .r q65
def q66 : P2 := .o q32
def r66 : X := .r q66
def q67 : P2 := .z q33
def r67 : X := .r q67
def q68 : P2 := .o q33
def r68 : X := .r q68
def q69 : P2 := .z q34
def r69 : X := .r q69
def q70 : P2 := .o q34
def r70 : X := .r q70
def q71 : P2 := .z q35
def r71 : X := .r q71
def q72 : P2 := .o q35
def r72 : X := .r q72
def q73 : P2 := .z q36
def r73 : X := .r q73
def q74 : P2 := .o q36
def r74 : X := .r q74
def q75 : P2 := .z q37
def r75 : X := .r q75
def q76 : P2 := .o q37
def r76 : X := .r q76
def q77 : P2 := .z q38
def r77 : X := .r q77
def q78 : P2 := .o q38
def r78 : X := .r q78
def q79 : P2 := .z q39
def r79 : X := .r q79
def q80 : P2 := .o q39
def r80 : X := .r q80
def q81 : P2 := .z q40
def r81 : X := .r q81
def q82 : P2 := .o q40
def r82 : X := .r q82
def q83 : P2 := .z q41
def r83 : X := .r q83
def q84 : P2 := .o q41
def r84 : X := .r q84
def q85 : P2 := .z q42
def r85 : X := .r q85
def q86 : P2 := .o q42
def r86 : X := .r q86
def q87 : P2 := .z q43
def r87 : X := .r q87
def q88 : P2 := .o q43
def r88 : X := .r q88
def q89 : P2 := .z q44
def r89 : X := .r q89
def q90 : P2 := .o q44
def r90 : X := .r q90
def q91 : P2 := .z q45
def r91 : X := .r q91
def q92 : P2 := .o q45
def r92 : X := .r q92
def q93 : P2 := .z q46
def r93 : X := .r q93
def q94 : P2 := .o q46
def r94 : X := .r q94
def q95 : P2 := .z q47
def r95 : X := .r q95
def q96 : P2 := .o q47
def r96 : X := .r q96
def q97 : P2 := .z q48
def r97 : X := .r q97
def q98 : P2 := .o q48
def r98 : X := .r q98
def q99 : P2 := .z q49
def r99 : X := .r q99
def q100 : P2 := .o q49
def r100 : X := .r q100
def q101 : P2 := .z q50
def r101 : X := .r q101
def q102 : P2 := .o q50
def r102 : X := .r q102
def q103 : P2 := .z q51
def r103 : X := .r q103
def q104 : P2 := .o q51
def r104 : X := .r q104
def q105 : P2 := .z q52
def r105 : X := .r q105
def q106 : P2 := .o q52
def r106 : X := .r q106
def q107 : P2 := .z q53
def r107 : X := .r q107
def q108 : P2 := .o q53
def r108 : X := .r q108
def q109 : P2 := .z q54
def r109 : X := .r q109
def q110 : P2 := .o q54
def r110 : X := .r q110
def q111 : P2 := .z q55
def r111 : X := .r q111
def q112 : P2 := .o q55
def r112 : X := .r q112
def q113 : P2 := .z q56
def r113 : X := .r q113
def q114 : P2 := .o q56
def r114 : X := .r q114
def q115 : P2 := .z q57
def r115 : X := .r q115
def q116 : P2 := .o q57
def r116 : X := .r q116
def q117 : P2 := .z q58
def r117 : X := .r q117
def q118 : P2 := .o q58
def r118 : X := .r q118
def q119 : P2 := .z q59
def r119 : X := .r q119
def q120 : P2 := .o q59
def r120 : X := .r q120
def q121 : P2 := .z q60
def r121 : X := .r q121
def q122 : P2 := .o q60
def r122 : X := .r q122
def q123 : P2 := .z q61
def r123 : X := .r q123
def q124 : P2 := .o q61
def r124 : X := .r q124
def q125 : P2 := .z q62
def r125 : X := .r q125
def q126 : P2 := .o q62
def r126 : X := .r q126
def q127 : P2 := .z q63
def r127 : X := .r q127
def q128 : P2 := .o q63
def r128 : X := .r q128
def q129 : P2 := .z q64
def r129 : X := .r q129
def q130 : P2 := .o q64
def r130 : X := .r q130
def q131 : P2 := .z q65
def r131 : X := .r q131
def q132 : P2 := .o q65
def r132 : X := .r q132
def q133 : P2 := .z q66
def r133 : X := .r q133
def q134 : P2 := .o q66
def r134 : X := .r q134
def q135 : P2 := .z q67
def r135 : X := .r q135
def q136 : P2 := .o q67
def r136 : X := .r q136
def q137 : P2 := .z q68
def r137 : X := .r q137
def q138 : P2 := .o q68
def r138 : X := .r q138
def q139 : P2 := .z q69
def r139 : X := .r q139
def q140 : P2 := .o q69
def r140 : X := .r q140
def q141 : P2 := .z q70
def r141 : X := .r q141
def q142 : P2 := .o q70
def r142 : X := .r q142
def q143 : P2 := .z q71
def r143 : X := .r q143
def q144 : P2 := .o q71
def r144 : X := .r q144
def q145 : P2 := .z q72
def r145 : X := .r q145
def q146 : P2 := .o q72
def r146 : X := .r q146
def q147 : P2 := .z q73
def r147 : X := .r q147
def q148 : P2 := .o q73
def r148 : X := .r q148
def q149 : P2 := .z q74
def r149 : X := .r q149
def q150 : P2 := .o q74
def r150 : X := .r q150
def q151 : P2 := .z q75
def r151 : X := .r q151
def q152 : P2 := .o q75
def r152 : X := .r q152
def q153 : P2 := .z q76
def r153 : X := .r q153
def q154 : P2 := .o q76
def r154 : X := .r q154
def q155 : P2 := .z q77
def r155 : X := .r q155
def q156 : P2 := .o q77
def r156 : X := .r q156
def q157 : P2 := .z q78
def r157 : X := .r q157
def q158 : P2 := .o q78
def r158 : X := .r q158
def q159 : P2 := .z q79
def r159 : X := .r q159
def q160 : P2 := .o q79
def r160 : X := .r q160
def q161 : P2 := .z q80
def r161 : X := .r q161
def q162 : P2 := .o q80
def r162 : X := .r q162
def q163 : P2 := .z q81
def r163 : X := .r q163
def q164 : P2 := .o q81
def r164 : X := .r q164
def q165 : P2 := .z q82
def r165 : X := .r q165
def q166 : P2 := .o q82
def r166 : X := .r q166
def q167 : P2 := .z q83
def r167 : X := .r q167
abbrev n_kilnlaw06_ParseElses : Nat := 5
abbrev n_kilnlaw06_head : Nat := 9
abbrev n_parse_Class : Nat := 10
abbrev n_strconv_Itoa : Nat := 13
abbrev n_kilnlaw06_ret : Nat := 19
abbrev n_lex_All : Nat := 24
abbrev n_parse_parser_class : Nat := 25
abbrev n_parse_parser_ok : Nat := 26
abbrev n_internal_strconv_Itoa : Nat := 27
abbrev n_internal_strconv_FormatInt : Nat := 29
abbrev n_lex_lexer_skip : Nat := 38
abbrev n_lex_lexer_next : Nat := 39
abbrev n_parse_parser_want : Nat := 40
abbrev n_parse_parser_name : Nat := 41
abbrev n_parse_parser_take : Nat := 42
abbrev n_parse_parser_typ : Nat := 43
abbrev n_parse_parser_many : Nat := 44
abbrev n_parse_parser_is : Nat := 45
abbrev n_parse_parser_method : Nat := 46
abbrev n_parse_parser_fail : Nat := 47
abbrev n_internal_strconv_small : Nat := 48
abbrev n_internal_strconv_numDigits : Nat := 49
abbrev n_internal_strconv_formatBase10 : Nat := 50
abbrev n_internal_strconv_formatBits : Nat := 51
abbrev n_lex_lexer_step : Nat := 58
abbrev n_strings_HasPrefix : Nat := 59
abbrev n_strings_IndexByte : Nat := 60
abbrev n_lex_great : Nat := 61
abbrev n_lex_lexer_run : Nat := 62
abbrev n_lex_inner : Nat := 63
abbrev n_lex_small : Nat := 64
abbrev n_lex_words : Nat := 65
abbrev n_lex_digit : Nat := 66
abbrev n_lex_number : Nat := 67
abbrev n_parse_parser_next : Nat := 68
abbrev n_parse_parser_base : Nat := 69
abbrev n_parse_parser_block : Nat := 70
abbrev n_internal_strconv_log10Pow2 : Nat := 71
abbrev n_math_bits_Len64 : Nat := 72
abbrev n_internal_strconv_bool2_int : Nat := 73
abbrev n_internal_strconv_isPowerOfTwo : Nat := 74
abbrev n_math_bits_TrailingZeros : Nat := 75
abbrev n_internal_stringslite_HasPrefix : Nat := 81
abbrev n_internal_stringslite_IndexByte : Nat := 82
abbrev n_ast_Int : Nat := 83
abbrev n_ast_Bool : Nat := 84
abbrev n_ast_Of : Nat := 85
abbrev n_parse_parser_down : Nat := 86
abbrev n_parse_parser_stmt : Nat := 87
abbrev n_math_bits_TrailingZeros32 : Nat := 88
abbrev n_math_bits_TrailingZeros64 : Nat := 89
abbrev n_parse_parser_down_1 : Nat := 95
abbrev n_parse_parser_expr : Nat := 96
abbrev n_parse_parser_choice : Nat := 97
abbrev n_parse_parser_plain : Nat := 98
abbrev n_parse_parser_either : Nat := 103
abbrev n_parse_parser_expr_1 : Nat := 104
abbrev n_parse_parser_compared : Nat := 105
abbrev n_parse_parser_compared_1 : Nat := 106
abbrev n_parse_parser_signs : Nat := 107
abbrev n_parse_parser_compared_1_1 : Nat := 108
abbrev n_parse_parser_unary : Nat := 109
abbrev n_parse_parser_parts : Nat := 110
abbrev n_parse_parser_prim : Nat := 111
abbrev n_parse_parser_member : Nat := 112
abbrev n_parse_parser_args : Nat := 113
abbrev n_ast_Type_Class : Nat := 114
/- kiln/kilnlaw06.ParseElses -/
def af_kilnlaw06_ParseElses : AF := .mk 2 (.seq (.ops [.mk (.to q4) .no (.n (.mv (.c (.bool false))))])
 (.seq (.seq (.ops [.mk .ps .no (.e (.call n_kilnlaw06_head [])),
    .mk (.to q12) .no (.n (.not (.s 0)))])
   (.cond r12 (.seq (.ops [.mk (.to q4) .no (.n (.mv (.c (.bool false))))])
     .ret)
    .skip))
  (.seq (.ops [.mk .ps .no (.n (.bin .and r0 (.c (.int .i64 (.ofNat 31) 0)))),
    .mk .ps .no (.n (.bin .add (.c (.int .i64 (.ofNat 1) 0)) (.s 0))),
    .mk (.to q0) .no (.n (.mv (.s 0)))])
   (.seq (.ops [.mk (.to q5) .no (.n (.mv (.c (.str 17 42578138482624074712360392962652319540841))))])
    (.seq (.seq (.ops [.mk (.to q6) .no (.n (.mv (.c (.int .i64 (.ofNat 1) 0))))])
      (.block 0 (.loop (.seq (.seq (.ops [.mk (.to q18) .no (.n (.bin .lss r6 r0))])
          (.cond r18 .skip
           (.exit 0)))
         (.seq (.block 1 (.ops [.mk .ps .no (.n (.bin .add r5 (.c (.str 19 723766442744561034942879277849587233573332256)))),
            .mk .ps .no (.e (.call n_strconv_Itoa [r6])),
            .mk .ps .no (.n (.bin .add (.s 1) (.s 0))),
            .mk .ps .no (.n (.bin .add (.s 0) (.c (.str 3 8200251)))),
            .mk (.to q5) .no (.n (.mv (.s 0)))]))
          (.ops [.mk .ps .no (.n (.bin .add r6 (.c (.int .i64 (.ofNat 1) 0)))),
           .mk (.to q6) .no (.n (.mv (.s 0)))]))))))
     (.seq (.seq (.ops [.mk (.to q27) .no (.n (.mv r1))])
       (.cond r27 (.ops [.mk .ps .no (.n (.bin .add r5 (.c (.str 29 3373387688266565359136919999834046757122898627080910134699207674324256)))),
         .mk (.to q5) .no (.n (.mv (.s 0)))])
        .skip))
      (.seq (.ops [.mk .ps .no (.n (.bin .add (.c (.str 27 13361891714458179349549316075936357978049634714877068622323346531)) r5)),
        .mk .ps .no (.n (.bin .add (.s 0) (.c (.str 4 2099281184)))),
        .mk .ps .no (.e (.call n_parse_Class [(.s 0)])),
        .mk .ps .no (.n (.ext (.s 0) 0)),
        .mk .ps .no (.n (.ext (.s 1) 1)),
        .mk (.to q7) .no (.a (.alloc 6 [[(.int .i64 (.ofNat 0) 0), (.int .i64 (.ofNat 0) 0), (.str 0 0), (.str 0 0), .nils, .nils]])),
        .mk (.to q8) .no (.a (.alloc 3 [[(.int .i64 (.ofNat 0) 0), (.int .i64 (.ofNat 0) 0), (.int .i64 (.ofNat 0) 0)]])),
        .mk .no .no (.e (.st 6 r7 (.s 1))),
        .mk .no .no (.e (.st 3 r8 (.s 0)))])
       (.seq (.seq (.ops [.mk .ps .no (.n (.faddr 0 r8)),
          .mk .ps .no (.n (.ld1 (.s 0))),
          .mk .ps .no (.n (.eq (.one .int) true (.s 0) (.c (.int .i64 (.ofNat 0) 0)))),
          .mk .ps (.on (.s 0) false) (.n (.faddr 5 r7)),
          .mk .ps (.on (.s 1) false) (.n (.ld1 (.s 0))),
          .mk .ps (.on (.s 2) false) (.n (.iaddr 8 (.s 0) (.c (.int .i64 (.ofNat 0) 0)))),
          .mk .ps (.on (.s 3) false) (.n (.faddr 7 (.s 0))),
          .mk .ps (.on (.s 4) false) (.n (.ld1 (.s 0))),
          .mk .ps (.on (.s 5) false) (.n (.lenL (.s 0))),
          .mk .ps (.on (.s 6) false) (.n (.eq (.one .int) true (.s 0) (.c (.int .i64 (.ofNat 1) 0)))),
          .mk (.to q48) .no (.n (.pick (.s 7) (.c (.bool true)) (.s 0)))])
         (.cond r48 (.seq (.ops [.mk (.to q4) .no (.n (.mv (.c (.bool false))))])
           .ret)
          .skip))
        (.seq (.ops [.mk .ps .no (.n (.faddr 5 r7)),
          .mk .ps .no (.n (.ld1 (.s 0))),
          .mk .ps .no (.n (.iaddr 8 (.s 0) (.c (.int .i64 (.ofNat 0) 0)))),
          .mk .ps .no (.n (.faddr 7 (.s 0))),
          .mk .ps .no (.n (.ld1 (.s 0))),
          .mk .ps .no (.n (.iaddr 9 (.s 0) (.c (.int .i64 (.ofNat 0) 0)))),
          .mk .ps .no (.n (.ldn 9 (.s 0))),
          .mk (.to q9) .no (.a (.alloc 9 [[(.int .i64 (.ofNat 0) 0), (.int .i64 (.ofNat 0) 0), (.int .i64 (.ofNat 0) 0), (.str 0 0), (.str 0 0), (.bool false), .nils, .nils, .nils]])),
          .mk .no .no (.e (.st 9 r9 (.s 0)))])
         (.seq (.seq (.ops [.mk (.to q10) .no (.n (.mv (.c (.int .i64 (.ofNat 0) 0))))])
           (.block 2 (.loop (.seq (.seq (.ops [.mk (.to q58) .no (.n (.bin .lss r10 r0))])
               (.cond r58 .skip
                (.exit 2)))
              (.seq (.block 3 (.seq (.seq (.ops [.mk .ps .no (.n (.faddr 0 r9)),
                   .mk .ps .no (.n (.ld1 (.s 0))),
                   .mk .ps .no (.n (.eq (.one .int) true (.s 0) (.c (.int .i64 (.ofNat 4) 0)))),
                   .mk .ps (.on (.s 0) false) (.n (.faddr 7 r9)),
                   .mk .ps (.on (.s 1) false) (.n (.ld1 (.s 0))),
                   .mk .ps (.on (.s 2) false) (.n (.lenL (.s 0))),
                   .mk .ps (.on (.s 3) false) (.n (.eq (.one .int) true (.s 0) (.c (.int .i64 (.ofNat 1) 0)))),
                   .mk .ps .no (.n (.pick (.s 4) (.c (.bool true)) (.s 0))),
                   .mk .ps (.on (.s 0) false) (.n (.faddr 7 r9)),
                   .mk .ps (.on (.s 1) false) (.n (.ld1 (.s 0))),
                   .mk .ps (.on (.s 2) false) (.n (.iaddr 9 (.s 0) (.c (.int .i64 (.ofNat 0) 0)))),
                   .mk .ps (.on (.s 3) false) (.n (.faddr 6 (.s 0))),
                   .mk .ps (.on (.s 4) false) (.n (.ld1 (.s 0))),
                   .mk .ps (.on (.s 5) false) (.n (.iaddr 11 (.s 0) (.c (.int .i64 (.ofNat 0) 0)))),
                   .mk .ps (.on (.s 6) false) (.n (.faddr 3 (.s 0))),
                   .mk .ps (.on (.s 7) false) (.n (.ld1 (.s 0))),
                   .mk .ps (.on (.s 8) false) (.n (.mv r10)),
                   .mk .ps (.on (.s 9) false) (.n (.eq (.one .int) true (.s 1) (.s 0))),
                   .mk (.to q81) .no (.n (.pick (.s 10) (.c (.bool true)) (.s 0)))])
                  (.cond r81 (.seq (.ops [.mk (.to q4) .no (.n (.mv (.c (.bool false))))])
                    .ret)
                   .skip))
                 (.seq (.seq (.ops [.mk .ps .no (.n (.bin .sub r0 (.c (.int .i64 (.ofNat 1) 0)))),
                    .mk (.to q85) .no (.n (.eq (.one .int) false r10 (.s 0)))])
                   (.cond r85 (.seq (.ops [.mk .ps .no (.n (.faddr 8 r9)),
                      .mk .ps .no (.n (.ld1 (.s 0))),
                      .mk .ps .no (.n (.lenL (.s 0))),
                      .mk .ps .no (.n (.eq (.one .int) false (.s 0) (.c (.int .i64 (.ofNat 2) 0)))),
                      .mk .ps (.on (.s 0) true) (.n (.mv r1)),
                      .mk .ps .no (.n (.pick (.s 1) (.s 0) (.c (.bool false)))),
                      .mk .ps (.on (.s 0) false) (.n (.faddr 8 r9)),
                      .mk .ps (.on (.s 1) false) (.n (.ld1 (.s 0))),
                      .mk .ps (.on (.s 2) false) (.n (.lenL (.s 0))),
                      .mk .ps (.on (.s 3) false) (.n (.eq (.one .int) false (.s 0) (.c (.int .i64 (.ofNat 0) 0)))),
                      .mk .ps (.on (.s 4) false) (.n (.mv (.s 0))),
                      .mk .ps (.on (.s 0) true) (.n (.mv r1)),
                      .mk .ps (.on (.s 1) true) (.n (.not (.s 0))),
                      .mk .ps (.on (.s 7) false) (.n (.pick (.s 2) (.s 0) (.c (.bool false)))),
                      .mk .ps .no (.n (.pick (.s 8) (.c (.bool true)) (.s 0))),
                      .mk (.to q4) .no (.n (.mv (.s 0)))])
                     .ret)
                    .skip))
                  (.seq (.seq (.ops [.mk .ps .no (.n (.faddr 8 r9)),
                     .mk .ps .no (.n (.ld1 (.s 0))),
                     .mk .ps .no (.n (.lenL (.s 0))),
                     .mk (.to q106) .no (.n (.eq (.one .int) true (.s 0) (.c (.int .i64 (.ofNat 1) 0))))])
                    (.cond r106 (.seq (.ops [.mk (.to q4) .no (.n (.mv (.c (.bool false))))])
                      .ret)
                     .skip))
                   (.ops [.mk .ps .no (.n (.faddr 8 r9)),
                    .mk .ps .no (.n (.ld1 (.s 0))),
                    .mk .ps .no (.n (.iaddr 9 (.s 0) (.c (.int .i64 (.ofNat 0) 0)))),
                    .mk .ps .no (.n (.ldn 9 (.s 0))),
                    .mk .no .no (.e (.st 9 r9 (.s 0)))])))))
               (.ops [.mk .ps .no (.n (.bin .add r10 (.c (.int .i64 (.ofNat 1) 0)))),
                .mk (.to q10) .no (.n (.mv (.s 0)))]))))))
          (.seq (.ops [.mk (.to q4) .no (.n (.mv (.c (.bool false))))])
           .ret)))))))))))
 [.tmp q4] .no 0
/- kiln/kilnlaw06.head -/
def af_kilnlaw06_head : AF := .mk 0 (.seq (.ops [.mk (.to q0) .no (.n (.mv (.c (.bool false))))])
 (.seq (.ops [.mk .ps .no (.e (.call n_kilnlaw06_ret [(.c (.str 9 924654904039078305912))])),
   .mk .ps .no (.n (.ext (.s 0) 0)),
   .mk .ps .no (.n (.ext (.s 1) 1)),
   .mk (.to q1) .no (.a (.alloc 11 [[(.int .i64 (.ofNat 0) 0), (.int .i64 (.ofNat 0) 0), (.int .i64 (.ofNat 0) 0), (.int .i64 (.ofNat 0) 0), (.str 0 0), (.str 0 0), (.bool false), .nils, (.str 0 0), (.bool false), (.str 0 0)]])),
   .mk (.to q2) .no (.a (.alloc 3 [[(.int .i64 (.ofNat 0) 0), (.int .i64 (.ofNat 0) 0), (.int .i64 (.ofNat 0) 0)]])),
   .mk .no .no (.e (.st 11 r1 (.s 1))),
   .mk .no .no (.e (.st 3 r2 (.s 0)))])
  (.seq (.ops [.mk .ps .no (.n (.ldn 3 r2)),
    .mk .ps .no (.n (.build [(.int .i64 (.ofNat 0) 0), (.int .i64 (.ofNat 0) 0), (.int .i64 (.ofNat 0) 0)] [])),
    .mk .ps .no (.n (.eq (.agg [.int, .int, .int]) false (.s 1) (.s 0))),
    .mk .ps (.on (.s 0) true) (.n (.faddr 0 r1)),
    .mk .ps (.on (.s 1) true) (.n (.ld1 (.s 0))),
    .mk .ps (.on (.s 2) true) (.n (.eq (.one .int) false (.s 0) (.c (.int .i64 (.ofNat 16) 0)))),
    .mk .ps .no (.n (.pick (.s 3) (.s 0) (.c (.bool false)))),
    .mk .ps (.on (.s 0) true) (.n (.faddr 4 r1)),
    .mk .ps (.on (.s 1) true) (.n (.ld1 (.s 0))),
    .mk .ps (.on (.s 2) true) (.n (.eq (.one .str) false (.s 0) (.c (.str 1 43)))),
    .mk .ps .no (.n (.pick (.s 3) (.s 0) (.c (.bool false)))),
    .mk .ps (.on (.s 0) true) (.n (.faddr 7 r1)),
    .mk .ps (.on (.s 1) true) (.n (.ld1 (.s 0))),
    .mk .ps (.on (.s 2) true) (.n (.lenL (.s 0))),
    .mk .ps (.on (.s 3) true) (.n (.eq (.one .int) false (.s 0) (.c (.int .i64 (.ofNat 2) 0)))),
    .mk .ps .no (.n (.pick (.s 4) (.s 0) (.c (.bool false)))),
    .mk .ps (.on (.s 0) true) (.n (.faddr 7 r1)),
    .mk .ps (.on (.s 1) true) (.n (.ld1 (.s 0))),
    .mk .ps (.on (.s 2) true) (.n (.iaddr 11 (.s 0) (.c (.int .i64 (.ofNat 0) 0)))),
    .mk .ps (.on (.s 3) true) (.n (.faddr 0 (.s 0))),
    .mk .ps (.on (.s 4) true) (.n (.ld1 (.s 0))),
    .mk .ps (.on (.s 5) true) (.n (.eq (.one .int) false (.s 0) (.c (.int .i64 (.ofNat 6) 0)))),
    .mk .ps .no (.n (.pick (.s 6) (.s 0) (.c (.bool false)))),
    .mk .ps (.on (.s 0) true) (.n (.faddr 7 r1)),
    .mk .ps (.on (.s 1) true) (.n (.ld1 (.s 0))),
    .mk .ps (.on (.s 2) true) (.n (.iaddr 11 (.s 0) (.c (.int .i64 (.ofNat 1) 0)))),
    .mk .ps (.on (.s 3) true) (.n (.faddr 4 (.s 0))),
    .mk .ps (.on (.s 4) true) (.n (.ld1 (.s 0))),
    .mk .ps (.on (.s 5) true) (.n (.eq (.one .str) false (.s 0) (.c (.str 1 42)))),
    .mk .ps .no (.n (.pick (.s 6) (.s 0) (.c (.bool false)))),
    .mk (.to q0) .no (.n (.mv (.s 0)))])
   .ret)))
 [.tmp q0] .no 0
/- kiln/parse.Class -/
def af_parse_Class : AF := .mk 1 (.seq (.ops [.mk (.to q2) .no (.a (.alloc 6 [[(.int .i64 (.ofNat 0) 0), (.int .i64 (.ofNat 0) 0), (.str 0 0), (.str 0 0), .nils, .nils]])),
  .mk (.to q3) .no (.a (.alloc 3 [[(.int .i64 (.ofNat 0) 0), (.int .i64 (.ofNat 0) 0), (.int .i64 (.ofNat 0) 0)]]))])
 (.seq (.ops [.mk .ps .no (.e (.call n_lex_All [r0])),
   .mk .ps .no (.n (.ext (.s 0) 0)),
   .mk .ps .no (.n (.ext (.s 1) 1)),
   .mk (.to q5) .no (.a (.alloc 3 [[(.int .i64 (.ofNat 0) 0), (.int .i64 (.ofNat 0) 0), (.int .i64 (.ofNat 0) 0)]])),
   .mk (.to q4) .no (.n (.mv (.s 1))),
   .mk .no .no (.e (.st 3 r5 (.s 0)))])
  (.seq (.seq (.ops [.mk .ps .no (.n (.faddr 0 r5)),
     .mk .ps .no (.n (.ld1 (.s 0))),
     .mk (.to q15) .no (.n (.eq (.one .int) true (.s 0) (.c (.int .i64 (.ofNat 0) 0))))])
    (.cond r15 (.seq (.reg [.op (.mk (.to q16) .no (.n (.build [(.int .i64 (.ofNat 0) 0), (.int .i64 (.ofNat 0) 0), (.str 0 0), (.str 0 0), .nils, .nils] []))),
       .op (.mk (.to q17) .no (.n (.ldn 3 r5))),
       .op (.mk .no .no (.e (.st 6 r2 r16))),
       .re q17 .no (.ldn 3 r5),
       .op (.mk .no .no (.e (.st 3 r3 r17)))])
      .ret)
     .skip))
   (.seq (.ops [.mk .ps .no (.n (.build [.nils, (.int .i64 (.ofNat 0) 0), (.int .i64 (.ofNat 0) 0), (.int .i64 (.ofNat 0) 0), (.int .i64 (.ofNat 0) 0)] [(0, 1, r4)])),
     .mk .ps .no (.a (.box (.s 0))),
     .mk (.to q6) .no (.n (.mv (.s 0)))])
    (.seq (.ops [.mk .ps .no (.e (.call n_parse_parser_class [r6])),
      .mk (.to q7) .no (.a (.alloc 6 [[(.int .i64 (.ofNat 0) 0), (.int .i64 (.ofNat 0) 0), (.str 0 0), (.str 0 0), .nils, .nils]])),
      .mk .no .no (.e (.st 6 r7 (.s 0)))])
     (.seq (.seq (.ops [.mk .ps .no (.e (.call n_parse_parser_ok [r6])),
        .mk (.to q25) .no (.n (.not (.s 0)))])
       (.cond r25 (.seq (.reg [.op (.mk (.to q26) .no (.n (.build [(.int .i64 (.ofNat 0) 0), (.int .i64 (.ofNat 0) 0), (.str 0 0), (.str 0 0), .nils, .nils] []))),
          .op (.mk (.to q27) .no (.n (.mv r6))),
          .op (.mk (.to q28) .no (.n (.nilck r27))),
          .op (.mk (.to q29) .no (.n (.faddr 2 r28))),
          .op (.mk (.to q30) .no (.n (.ldn 3 r29))),
          .op (.mk .no .no (.e (.st 6 r2 r26))),
          .re q30 .no (.ldn 3 r29),
          .op (.mk .no .no (.e (.st 3 r3 r30)))])
         .ret)
        .skip))
      (.seq (.ops [.mk .ps .no (.n (.ldn 6 r7)),
        .mk .ps .no (.n (.build [(.int .i64 (.ofNat 0) 0), (.int .i64 (.ofNat 0) 0), (.int .i64 (.ofNat 0) 0)] [])),
        .mk .no .no (.e (.st 6 r2 (.s 1))),
        .mk .no .no (.e (.st 3 r3 (.s 0)))])
       .ret)))))))
 [.celln q2 6, .celln q3 3] .no 0
/- strconv.Itoa -/
def af_strconv_Itoa : AF := .mk 1 (.seq (.ops [.mk (.to q2) .no (.n (.mv (.c (.str 0 0))))])
 (.seq (.ops [.mk .ps .no (.e (.call n_internal_strconv_Itoa [r0])),
   .mk (.to q2) .no (.n (.mv (.s 0)))])
  .ret))
 [.tmp q2] .no 0
/- kiln/kilnlaw06.ret -/
def af_kilnlaw06_ret : AF := .mk 1 (.seq (.ops [.mk (.to q2) .no (.a (.alloc 11 [[(.int .i64 (.ofNat 0) 0), (.int .i64 (.ofNat 0) 0), (.int .i64 (.ofNat 0) 0), (.int .i64 (.ofNat 0) 0), (.str 0 0), (.str 0 0), (.bool false), .nils, (.str 0 0), (.bool false), (.str 0 0)]])),
  .mk (.to q3) .no (.a (.alloc 3 [[(.int .i64 (.ofNat 0) 0), (.int .i64 (.ofNat 0) 0), (.int .i64 (.ofNat 0) 0)]]))])
 (.seq (.ops [.mk .ps .no (.n (.bin .add (.c (.str 34 961357696037381675649956981681352240005675623347818639615620599312194765693480035)) r0)),
   .mk .ps .no (.n (.bin .add (.s 0) (.c (.str 5 537415983163)))),
   .mk .ps .no (.e (.call n_parse_Class [(.s 0)])),
   .mk .ps .no (.n (.ext (.s 0) 0)),
   .mk .ps .no (.n (.ext (.s 1) 1)),
   .mk (.to q4) .no (.a (.alloc 6 [[(.int .i64 (.ofNat 0) 0), (.int .i64 (.ofNat 0) 0), (.str 0 0), (.str 0 0), .nils, .nils]])),
   .mk (.to q5) .no (.a (.alloc 3 [[(.int .i64 (.ofNat 0) 0), (.int .i64 (.ofNat 0) 0), (.int .i64 (.ofNat 0) 0)]])),
   .mk .no .no (.e (.st 6 r4 (.s 1))),
   .mk .no .no (.e (.st 3 r5 (.s 0)))])
  (.seq (.seq (.ops [.mk .ps .no (.n (.faddr 0 r5)),
     .mk .ps .no (.n (.ld1 (.s 0))),
     .mk .ps .no (.n (.eq (.one .int) true (.s 0) (.c (.int .i64 (.ofNat 0) 0)))),
     .mk .ps (.on (.s 0) false) (.n (.faddr 5 r4)),
     .mk .ps (.on (.s 1) false) (.n (.ld1 (.s 0))),
     .mk .ps (.on (.s 2) false) (.n (.lenL (.s 0))),
     .mk .ps (.on (.s 3) false) (.n (.eq (.one .int) true (.s 0) (.c (.int .i64 (.ofNat 1) 0)))),
     .mk .ps .no (.n (.pick (.s 4) (.c (.bool true)) (.s 0))),
     .mk .ps (.on (.s 0) false) (.n (.faddr 5 r4)),
     .mk .ps (.on (.s 1) false) (.n (.ld1 (.s 0))),
     .mk .ps (.on (.s 2) false) (.n (.iaddr 8 (.s 0) (.c (.int .i64 (.ofNat 0) 0)))),
     .mk .ps (.on (.s 3) false) (.n (.faddr 7 (.s 0))),
     .mk .ps (.on (.s 4) false) (.n (.ld1 (.s 0))),
     .mk .ps (.on (.s 5) false) (.n (.lenL (.s 0))),
     .mk .ps (.on (.s 6) false) (.n (.eq (.one .int) true (.s 0) (.c (.int .i64 (.ofNat 1) 0)))),
     .mk .ps .no (.n (.pick (.s 7) (.c (.bool true)) (.s 0))),
     .mk .ps (.on (.s 0) false) (.n (.faddr 5 r4)),
     .mk .ps (.on (.s 1) false) (.n (.ld1 (.s 0))),
     .mk .ps (.on (.s 2) false) (.n (.iaddr 8 (.s 0) (.c (.int .i64 (.ofNat 0) 0)))),
     .mk .ps (.on (.s 3) false) (.n (.faddr 7 (.s 0))),
     .mk .ps (.on (.s 4) false) (.n (.ld1 (.s 0))),
     .mk .ps (.on (.s 5) false) (.n (.iaddr 9 (.s 0) (.c (.int .i64 (.ofNat 0) 0)))),
     .mk .ps (.on (.s 6) false) (.n (.faddr 6 (.s 0))),
     .mk .ps (.on (.s 7) false) (.n (.ld1 (.s 0))),
     .mk .ps (.on (.s 8) false) (.n (.lenL (.s 0))),
     .mk .ps (.on (.s 9) false) (.n (.eq (.one .int) true (.s 0) (.c (.int .i64 (.ofNat 1) 0)))),
     .mk (.to q42) .no (.n (.pick (.s 10) (.c (.bool true)) (.s 0)))])
    (.cond r42 (.seq (.reg [.op (.mk (.to q43) .no (.n (.build [(.int .i64 (.ofNat 0) 0), (.int .i64 (.ofNat 0) 0), (.int .i64 (.ofNat 0) 0), (.int .i64 (.ofNat 0) 0), (.str 0 0), (.str 0 0), (.bool false), .nils, (.str 0 0), (.bool false), (.str 0 0)] []))),
       .op (.mk (.to q44) .no (.n (.ldn 3 r5))),
       .op (.mk .no .no (.e (.st 11 r2 r43))),
       .re q44 .no (.ldn 3 r5),
       .op (.mk .no .no (.e (.st 3 r3 r44)))])
      .ret)
     .skip))
   (.seq (.reg [.op (.mk (.to q45) .no (.n (.faddr 5 r4))),
     .op (.mk (.to q46) .no (.n (.ld1 r45))),
     .op (.mk (.to q47) .no (.n (.iaddr 8 r46 (.c (.int .i64 (.ofNat 0) 0))))),
     .op (.mk (.to q48) .no (.n (.faddr 7 r47))),
     .op (.mk (.to q49) .no (.n (.ld1 r48))),
     .op (.mk (.to q50) .no (.n (.iaddr 9 r49 (.c (.int .i64 (.ofNat 0) 0))))),
     .op (.mk (.to q51) .no (.n (.faddr 6 r50))),
     .op (.mk (.to q52) .no (.n (.ld1 r51))),
     .op (.mk (.to q53) .no (.n (.iaddr 11 r52 (.c (.int .i64 (.ofNat 0) 0))))),
     .op (.mk (.to q54) .no (.n (.ldn 11 r53))),
     .op (.mk (.to q55) .no (.n (.ldn 3 r5))),
     .op (.mk .no .no (.e (.st 11 r2 r54))),
     .re q55 .no (.ldn 3 r5),
     .op (.mk .no .no (.e (.st 3 r3 r55)))])
    .ret))))
 [.celln q2 11, .celln q3 3] .no 0
/- kiln/lex.All -/
def af_lex_All : AF := .mk 1 (.seq (.ops [.mk (.to q2) .no (.n (.mv (.c .nils))),
  .mk (.to q3) .no (.a (.alloc 3 [[(.int .i64 (.ofNat 0) 0), (.int .i64 (.ofNat 0) 0), (.int .i64 (.ofNat 0) 0)]]))])
 (.seq (.ops [.mk .ps .no (.n (.build [(.int .i64 (.ofNat 0) 0), (.int .i64 (.ofNat 0) 0)] [(0, 1, (.c (.int .i64 (.ofNat 1) 0))), (1, 1, (.c (.int .i64 (.ofNat 1) 0)))])),
   .mk .ps .no (.n (.build [(.str 0 0), (.int .i64 (.ofNat 0) 0), (.int .i64 (.ofNat 0) 0), (.int .i64 (.ofNat 0) 0)] [(0, 1, r0), (2, 2, (.s 0))])),
   .mk .ps .no (.a (.box (.s 0))),
   .mk (.to q4) .no (.n (.mv (.s 0)))])
  (.seq (.seq (.ops [.mk .ps .no (.n (.lenS r0)),
     .mk (.to q14) .no (.n (.bin .gtr (.s 0) (.c (.int .i64 (.ofNat 65536) 0))))])
    (.cond r14 (.seq (.reg [.op (.mk (.to q15) .no (.n (.mv r4))),
       .op (.mk (.to q16) .no (.n (.nilck r15))),
       .op (.mk (.to q17) .no (.n (.faddr 2 r16))),
       .op (.mk (.to q18) .no (.n (.ldn 2 r17))),
       .op (.mk (.to q19) .no (.n (.build [(.int .i64 (.ofNat 0) 0), (.int .i64 (.ofNat 0) 0), (.int .i64 (.ofNat 0) 0)] [(0, 1, (.c (.int .i64 (.ofNat 4) 0))), (1, 2, r18)]))),
       .op (.mk (.to q2) .no (.n (.mv (.c .nils)))),
       .op (.mk .no .no (.e (.st 3 r3 r19)))])
      .ret)
     .skip))
   (.seq (.ops [.mk (.to q5) .no (.n (.mv (.c .nils)))])
    (.block 0 (.loop (.block 1 (.seq (.ops [.mk .ps .no (.e (.call n_lex_lexer_skip [r4]))])
        (.seq (.ops [.mk .ps .no (.e (.call n_lex_lexer_next [r4])),
          .mk .ps .no (.n (.ext (.s 0) 0)),
          .mk .ps .no (.n (.ext (.s 1) 1)),
          .mk (.to q6) .no (.a (.alloc 5 [[(.int .i64 (.ofNat 0) 0), (.str 0 0), (.int .i64 (.ofNat 0) 0), (.int .i64 (.ofNat 0) 0), (.int .i64 (.ofNat 0) 0)]])),
          .mk .no .no (.e (.st 5 r6 (.s 1))),
          .mk (.to q7) .no (.n (.mv (.s 0)))])
         (.seq (.seq (.ops [.mk (.to q28) .no (.n (.eq (.one .int) true r7 (.c (.int .i64 (.ofNat 0) 0))))])
           (.cond r28 (.seq (.reg [.op (.mk (.to q29) .no (.n (.mv r7))),
              .op (.mk (.to q30) .no (.n (.mv r4))),
              .op (.mk (.to q31) .no (.n (.nilck r30))),
              .op (.mk (.to q32) .no (.n (.faddr 2 r31))),
              .op (.mk (.to q33) .no (.n (.ldn 2 r32))),
              .op (.mk (.to q34) .no (.n (.build [(.int .i64 (.ofNat 0) 0), (.int .i64 (.ofNat 0) 0), (.int .i64 (.ofNat 0) 0)] [(0, 1, r29), (1, 2, r33)]))),
              .op (.mk (.to q2) .no (.n (.mv (.c .nils)))),
              .op (.mk .no .no (.e (.st 3 r3 r34)))])
             .ret)
            .skip))
          (.seq (.ops [.mk .ps .no (.n (.ldn 5 r6)),
            .mk .ps .no (.a (.bslice 5 1 [(.int .i64 (.ofNat 0) 0), (.str 0 0), (.int .i64 (.ofNat 0) 0), (.int .i64 (.ofNat 0) 0), (.int .i64 (.ofNat 0) 0)] [(0, (.s 0))])),
            .mk .ps .no (.e (.app 5 48 r5 (.s 0))),
            .mk (.to q5) .no (.n (.mv (.s 0)))])
           (.seq (.ops [.mk .ps .no (.n (.faddr 0 r6)),
             .mk .ps .no (.n (.ld1 (.s 0))),
             .mk (.to q41) .no (.n (.eq (.one .int) false (.s 0) (.c (.int .i64 (.ofNat 0) 0))))])
            (.cond r41 (.seq (.ops [.mk .ps .no (.n (.build [(.int .i64 (.ofNat 0) 0), (.int .i64 (.ofNat 0) 0), (.int .i64 (.ofNat 0) 0)] [])),
               .mk (.to q2) .no (.n (.mv r5)),
               .mk .no .no (.e (.st 3 r3 (.s 0)))])
              .ret)
             .skip)))))))))))))
 [.tmp q2, .celln q3 3] .no 0
/- (*kiln/parse.parser).class -/
def af_parse_parser_class : AF := .mk 1 (.seq (.ops [.mk (.to q2) .no (.a (.alloc 6 [[(.int .i64 (.ofNat 0) 0), (.int .i64 (.ofNat 0) 0), (.str 0 0), (.str 0 0), .nils, .nils]]))])
 (.seq (.ops [.mk .ps .no (.n (.nilck r0)),
   .mk .ps .no (.n (.faddr 0 (.s 0))),
   .mk .ps .no (.n (.ld1 (.s 0))),
   .mk .ps .no (.n (.iaddr 5 (.s 0) (.c (.int .i64 (.ofNat 0) 0)))),
   .mk .ps .no (.n (.faddr 3 (.s 0))),
   .mk .ps .no (.n (.ldn 2 (.s 0))),
   .mk .ps .no (.n (.build [(.int .i64 (.ofNat 0) 0), (.int .i64 (.ofNat 0) 0), (.str 0 0), (.str 0 0), .nils, .nils] [(0, 2, (.s 0))])),
   .mk (.to q3) .no (.a (.alloc 6 [[(.int .i64 (.ofNat 0) 0), (.int .i64 (.ofNat 0) 0), (.str 0 0), (.str 0 0), .nils, .nils]])),
   .mk .no .no (.e (.st 6 r3 (.s 0)))])
  (.seq (.ops [.mk .ps .no (.a (.bslice 1 1 [(.str 0 0)] [(0, (.c (.str 5 495857003619)))])),
    .mk .ps .no (.e (.call n_parse_parser_want [r0, (.s 0)]))])
   (.seq (.ops [.mk .ps .no (.e (.call n_parse_parser_name [r0, (.c (.int .i64 (.ofNat 2) 0))])),
     .mk .ps .no (.n (.faddr 2 r3)),
     .mk .no .no (.e (.st 1 (.s 0) (.s 1)))])
    (.seq (.seq (.ops [.mk (.to q20) .no (.e (.call n_parse_parser_take [r0, (.c (.str 7 32480047633037413))]))])
      (.cond r20 (.ops [.mk .ps .no (.e (.call n_parse_parser_name [r0, (.c (.int .i64 (.ofNat 2) 0))])),
        .mk .ps .no (.n (.faddr 3 r3)),
        .mk .no .no (.e (.st 1 (.s 0) (.s 1)))])
       .skip))
     (.seq (.ops [.mk .ps .no (.a (.bslice 1 1 [(.str 0 0)] [(0, (.c (.str 1 123)))])),
       .mk .ps .no (.e (.call n_parse_parser_want [r0, (.s 0)]))])
      (.seq (.block 0 (.loop (.seq (.seq (.ops [.mk .ps .no (.e (.call n_parse_parser_ok [r0])),
            .mk .ps (.on (.s 0) true) (.n (.mv r0)),
            .mk .ps (.on (.s 1) true) (.e (.call n_parse_parser_take [(.s 0), (.c (.str 1 125))])),
            .mk .ps (.on (.s 2) true) (.n (.not (.s 0))),
            .mk (.to q33) .no (.n (.pick (.s 3) (.s 0) (.c (.bool false))))])
           (.cond r33 .skip
            (.exit 0)))
          (.block 1 (.block 2 (.seq (.ops [.mk .ps .no (.e (.call n_parse_parser_take [r0, (.c (.str 5 431315315046))])),
              .mk (.to q36) .no (.n (.mv (.s 0)))])
             (.cond r36 (.seq (.ops [.mk .ps .no (.e (.call n_parse_parser_typ [r0])),
                .mk (.to q4) .no (.a (.alloc 2 [[(.str 0 0), (.bool false)]])),
                .mk .no .no (.e (.st 2 r4 (.s 0)))])
               (.seq (.reg [.op (.mk (.to q41) .no (.n (.faddr 4 r3))),
                 .op (.mk (.to q42) .no (.n (.ld1 r41))),
                 .op (.mk (.to q43) .no (.n (.mv r0))),
                 .op (.mk (.to q45) .no (.n (.ldn 2 r4))),
                 .op (.mk (.to q44) .no (.e (.call n_parse_parser_name [r43, (.c (.int .i64 (.ofNat 3) 0))]))),
                 .re q42 .no (.ld1 r41),
                 .re q45 .no (.ldn 2 r4),
                 .op (.mk (.to q46) .no (.n (.build [(.str 0 0), (.str 0 0), (.bool false)] [(0, 1, r44), (1, 2, r45)]))),
                 .op (.mk (.to q47) .no (.a (.bslice 3 1 [(.str 0 0), (.str 0 0), (.bool false)] [(0, r46)]))),
                 .op (.mk (.to q48) .no (.e (.app 3 40 r42 r47))),
                 .op (.mk (.to q49) .no (.n (.faddr 4 r3))),
                 .op (.mk .no .no (.e (.st 1 r49 r48)))])
                (.seq (.ops [.mk .ps .no (.n (.faddr 4 r3)),
                  .mk .ps .no (.n (.ld1 (.s 0))),
                  .mk .ps .no (.n (.lenL (.s 0))),
                  .mk .ps .no (.e (.call n_parse_parser_many [r0, (.s 0)]))])
                 (.ops [.mk .ps .no (.a (.bslice 1 1 [(.str 0 0)] [(0, (.c (.str 1 59)))])),
                  .mk .ps .no (.e (.call n_parse_parser_want [r0, (.s 0)]))]))))
              (.seq (.ops [.mk .ps .no (.a (.bslice 1 2 [(.str 0 0)] [(0, (.c (.str 6 109304575259763))), (1, (.c (.str 6 110429656606061)))])),
                .mk .ps .no (.e (.call n_parse_parser_is [r0, (.s 0)])),
                .mk (.to q58) .no (.n (.mv (.s 0)))])
               (.cond r58 (.seq (.reg [.op (.mk (.to q62) .no (.n (.faddr 5 r3))),
                  .op (.mk (.to q63) .no (.n (.ld1 r62))),
                  .op (.mk (.to q64) .no (.n (.mv r0))),
                  .op (.mk (.to q65) .no (.e (.call n_parse_parser_method [r64]))),
                  .re q63 .no (.ld1 r62),
                  .op (.mk (.to q66) .no (.a (.bslice 8 1 [(.int .i64 (.ofNat 0) 0), (.int .i64 (.ofNat 0) 0), (.str 0 0), (.bool false), .nils, (.str 0 0), (.bool false), .nils] [(0, r65)]))),
                  .op (.mk (.to q67) .no (.e (.app 8 112 r63 r66))),
                  .op (.mk (.to q68) .no (.n (.faddr 5 r3))),
                  .op (.mk .no .no (.e (.st 1 r68 r67)))])
                 (.ops [.mk .ps .no (.n (.faddr 5 r3)),
                  .mk .ps .no (.n (.ld1 (.s 0))),
                  .mk .ps .no (.n (.lenL (.s 0))),
                  .mk .ps .no (.e (.call n_parse_parser_many [r0, (.s 0)]))]))
                (.ops [.mk .ps .no (.e (.call n_parse_parser_fail [r0, (.c (.int .i64 (.ofNat 21) 0))]))]))))))))))
       (.seq (.seq (.ops [.mk .ps .no (.e (.call n_parse_parser_ok [r0])),
          .mk .ps (.on (.s 0) true) (.n (.mv r0)),
          .mk .ps (.on (.s 1) true) (.n (.nilck (.s 0))),
          .mk .ps (.on (.s 2) true) (.n (.faddr 0 (.s 0))),
          .mk .ps (.on (.s 3) true) (.n (.ld1 (.s 0))),
          .mk .ps (.on (.s 4) true) (.n (.iaddr 5 (.s 0) (.c (.int .i64 (.ofNat 0) 0)))),
          .mk .ps (.on (.s 5) true) (.n (.faddr 0 (.s 0))),
          .mk .ps (.on (.s 6) true) (.n (.ld1 (.s 0))),
          .mk .ps (.on (.s 7) true) (.n (.eq (.one .int) true (.s 0) (.c (.int .i64 (.ofNat 0) 0)))),
          .mk (.to q85) .no (.n (.pick (.s 8) (.s 0) (.c (.bool false))))])
         (.cond r85 (.ops [.mk .ps .no (.e (.call n_parse_parser_fail [r0, (.c (.int .i64 (.ofNat 21) 0))]))])
          .skip))
        (.seq (.ops [.mk .ps .no (.n (.ldn 6 r3)),
          .mk .no .no (.e (.st 6 r2 (.s 0)))])
         .ret)))))))))
 [.celln q2 6] .no 0
/- (*kiln/parse.parser).ok -/
def af_parse_parser_ok : AF := .mk 1 (.seq (.ops [.mk (.to q2) .no (.n (.mv (.c (.bool false))))])
 (.seq (.ops [.mk .ps .no (.n (.nilck r0)),
   .mk .ps .no (.n (.faddr 2 (.s 0))),
   .mk .ps .no (.n (.faddr 0 (.s 0))),
   .mk .ps .no (.n (.ld1 (.s 0))),
   .mk .ps .no (.n (.eq (.one .int) false (.s 0) (.c (.int .i64 (.ofNat 0) 0)))),
   .mk (.to q2) .no (.n (.mv (.s 0)))])
  .ret))
 [.tmp q2] .no 0
/- internal/strconv.Itoa -/
def af_internal_strconv_Itoa : AF := .mk 1 (.seq (.ops [.mk (.to q2) .no (.n (.mv (.c (.str 0 0))))])
 (.seq (.ops [.mk .ps .no (.e (.call n_internal_strconv_FormatInt [r0, (.c (.int .i64 (.ofNat 10) 0))])),
   .mk (.to q2) .no (.n (.mv (.s 0)))])
  .ret))
 [.tmp q2] .no 0
/- internal/strconv.FormatInt -/
def af_internal_strconv_FormatInt : AF := .mk 2 (.seq (.ops [.mk (.to q4) .no (.n (.mv (.c (.str 0 0))))])
 (.seq (.seq (.ops [.mk (.to q11) .no (.n (.eq (.one .int) false r1 (.c (.int .i64 (.ofNat 10) 0))))])
   (.cond r11 (.seq (.seq (.ops [.mk .ps .no (.n (.bin .leq (.c (.int .i64 (.ofNat 0) 0)) r0)),
       .mk .ps (.on (.s 0) true) (.n (.mv r0)),
       .mk .ps (.on (.s 1) true) (.n (.bin .lss (.s 0) (.c (.int .i64 (.ofNat 100) 0)))),
       .mk (.to q17) .no (.n (.pick (.s 2) (.s 0) (.c (.bool false))))])
      (.cond r17 (.seq (.ops [.mk .ps .no (.e (.call n_internal_strconv_small [r0])),
         .mk (.to q4) .no (.n (.mv (.s 0)))])
        .ret)
       .skip))
     (.seq (.ops [.mk (.to q5) .no (.a (.alloc 1 [[(.int .u8 (.ofNat 0) 0)], [(.int .u8 (.ofNat 0) 0)], [(.int .u8 (.ofNat 0) 0)], [(.int .u8 (.ofNat 0) 0)], [(.int .u8 (.ofNat 0) 0)], [(.int .u8 (.ofNat 0) 0)], [(.int .u8 (.ofNat 0) 0)], [(.int .u8 (.ofNat 0) 0)], [(.int .u8 (.ofNat 0) 0)], [(.int .u8 (.ofNat 0) 0)], [(.int .u8 (.ofNat 0) 0)], [(.int .u8 (.ofNat 0) 0)], [(.int .u8 (.ofNat 0) 0)], [(.int .u8 (.ofNat 0) 0)], [(.int .u8 (.ofNat 0) 0)], [(.int .u8 (.ofNat 0) 0)], [(.int .u8 (.ofNat 0) 0)], [(.int .u8 (.ofNat 0) 0)], [(.int .u8 (.ofNat 0) 0)], [(.int .u8 (.ofNat 0) 0)], [(.int .u8 (.ofNat 0) 0)], [(.int .u8 (.ofNat 0) 0)], [(.int .u8 (.ofNat 0) 0)], [(.int .u8 (.ofNat 0) 0)]]))])
      (.seq (.ops [.mk .ps .no (.n (.cvi .u64 r0)),
        .mk (.to q6) .no (.n (.mv (.s 0)))])
       (.seq (.seq (.ops [.mk (.to q23) .no (.n (.bin .lss r0 (.c (.int .i64 (.ofNat 0) 0))))])
         (.cond r23 (.ops [.mk .ps .no (.n (.neg r6)),
           .mk (.to q6) .no (.n (.mv (.s 0)))])
          .skip))
        (.seq (.ops [.mk .ps .no (.e (.call n_internal_strconv_numDigits [r6])),
          .mk (.to q7) .no (.n (.mv (.s 0)))])
         (.seq (.ops [.mk .ps .no (.n (.bin .add (.c (.int .i64 (.ofNat 1) 0)) r7)),
           .mk .ps .no (.n (.slcA 24 1 r5 (some (.c (.int .i64 (.ofNat 1) 0))) (some (.s 0)))),
           .mk .ps .no (.e (.call n_internal_strconv_formatBase10 [(.s 0), r6]))])
          (.seq (.seq (.ops [.mk (.to q34) .no (.n (.bin .lss r0 (.c (.int .i64 (.ofNat 0) 0))))])
            (.cond r34 (.seq (.ops [.mk .ps .no (.n (.iaddrA 24 1 r5 (.c (.int .i64 (.ofNat 0) 0)))),
               .mk .no .no (.e (.st 1 (.s 0) (.c (.int .u8 (.ofNat 45) 0))))])
              (.seq (.ops [.mk .ps .no (.n (.bin .add (.c (.int .i64 (.ofNat 1) 0)) r7)),
                .mk .ps .no (.n (.slcA 24 1 r5 none (some (.s 0)))),
                .mk .ps .no (.n (.cvS (.s 0))),
                .mk (.to q4) .no (.n (.mv (.s 0)))])
               .ret))
             .skip))
           (.seq (.ops [.mk .ps .no (.n (.bin .add (.c (.int .i64 (.ofNat 1) 0)) r7)),
             .mk .ps .no (.n (.slcA 24 1 r5 (some (.c (.int .i64 (.ofNat 1) 0))) (some (.s 0)))),
             .mk .ps .no (.n (.cvS (.s 0))),
             .mk (.to q4) .no (.n (.mv (.s 0)))])
            .ret))))))))
    .skip))
  (.seq (.ops [.mk .ps .no (.n (.cvi .u64 r0)),
    .mk .ps .no (.n (.bin .lss r0 (.c (.int .i64 (.ofNat 0) 0)))),
    .mk .ps .no (.e (.call n_internal_strconv_formatBits [(.c .nils), (.s 1), r1, (.s 0), (.c (.bool false))])),
    .mk .ps .no (.n (.ext (.s 0) 0)),
    .mk .ps .no (.n (.ext (.s 1) 1)),
    .mk (.to q9) .no (.n (.mv (.s 0)))])
   (.seq (.ops [.mk (.to q4) .no (.n (.mv r9))])
    .ret))))
 [.tmp q4] .no 0
/- (*kiln/lex.lexer).skip -/
def af_lex_lexer_skip : AF := .mk 1 (.block 0 (.loop (.seq (.seq (.reg [.op (.mk (.to q4) .no (.n (.mv r0))),
     .op (.mk (.to q5) .no (.n (.nilck r4))),
     .op (.mk (.to q6) .no (.n (.faddr 1 r5))),
     .op (.mk (.to q7) .no (.n (.ld1 r6))),
     .op (.mk (.to q8) .no (.n (.mv r0))),
     .op (.mk (.to q9) .no (.n (.nilck r8))),
     .op (.mk (.to q10) .no (.n (.faddr 0 r9))),
     .op (.mk (.to q11) .no (.n (.ld1 r10))),
     .op (.mk (.to q12) .no (.n (.lenS r11))),
     .op (.mk (.to q13) .no (.n (.bin .lss r7 r12)))])
    (.cond r13 .skip
     (.exit 0)))
   (.block 1 (.seq (.reg [.op (.mk (.to q14) .no (.n (.mv r0))),
      .op (.mk (.to q15) .no (.n (.nilck r14))),
      .op (.mk (.to q16) .no (.n (.faddr 0 r15))),
      .op (.mk (.to q17) .no (.n (.ld1 r16))),
      .op (.mk (.to q18) .no (.n (.mv r0))),
      .op (.mk (.to q19) .no (.n (.nilck r18))),
      .op (.mk (.to q20) .no (.n (.faddr 1 r19))),
      .op (.mk (.to q21) .no (.n (.ld1 r20))),
      .op (.mk (.to q22) .no (.n (.idxS r17 r21))),
      .op (.mk (.to q2) .no (.n (.mv r22)))])
     (.block 2 (.seq (.ops [.mk .ps .no (.n (.eq (.one .int) false r2 (.c (.int .u8 (.ofNat 32) 0)))),
        .mk .ps (.on (.s 0) false) (.n (.mv r2)),
        .mk .ps (.on (.s 1) false) (.n (.eq (.one .int) false (.s 0) (.c (.int .u8 (.ofNat 9) 0)))),
        .mk .ps .no (.n (.pick (.s 2) (.c (.bool true)) (.s 0))),
        .mk .ps (.on (.s 0) false) (.n (.mv r2)),
        .mk .ps (.on (.s 1) false) (.n (.eq (.one .int) false (.s 0) (.c (.int .u8 (.ofNat 10) 0)))),
        .mk .ps .no (.n (.pick (.s 2) (.c (.bool true)) (.s 0))),
        .mk .ps (.on (.s 0) false) (.n (.mv r2)),
        .mk .ps (.on (.s 1) false) (.n (.eq (.one .int) false (.s 0) (.c (.int .u8 (.ofNat 13) 0)))),
        .mk .ps .no (.n (.pick (.s 2) (.c (.bool true)) (.s 0))),
        .mk (.to q23) .no (.n (.mv (.s 0)))])
       (.cond r23 (.ops [.mk .ps .no (.e (.call n_lex_lexer_step [r0, (.c (.int .i64 (.ofNat 1) 0))]))])
        (.seq (.reg [.op (.mk (.to q41) .no (.n (.mv r0))),
          .op (.mk (.to q42) .no (.n (.nilck r41))),
          .op (.mk (.to q43) .no (.n (.faddr 0 r42))),
          .op (.mk (.to q44) .no (.n (.ld1 r43))),
          .op (.mk (.to q45) .no (.n (.mv r0))),
          .op (.mk (.to q46) .no (.n (.nilck r45))),
          .op (.mk (.to q47) .no (.n (.faddr 1 r46))),
          .op (.mk (.to q48) .no (.n (.ld1 r47))),
          .op (.mk (.to q49) .no (.n (.slcS r44 (some r48) none))),
          .op (.mk (.to q50) .no (.e (.call n_strings_HasPrefix [r49, (.c (.str 2 12079))]))),
          .op (.mk (.to q40) .no (.n (.mv r50)))])
         (.cond r40 (.seq (.reg [.op (.mk (.to q51) .no (.n (.mv r0))),
            .op (.mk (.to q52) .no (.n (.nilck r51))),
            .op (.mk (.to q53) .no (.n (.faddr 0 r52))),
            .op (.mk (.to q54) .no (.n (.ld1 r53))),
            .op (.mk (.to q55) .no (.n (.mv r0))),
            .op (.mk (.to q56) .no (.n (.nilck r55))),
            .op (.mk (.to q57) .no (.n (.faddr 1 r56))),
            .op (.mk (.to q58) .no (.n (.ld1 r57))),
            .op (.mk (.to q59) .no (.n (.slcS r54 (some r58) none))),
            .op (.mk (.to q60) .no (.e (.call n_strings_IndexByte [r59, (.c (.int .u8 (.ofNat 10) 0))]))),
            .op (.mk (.to q3) .no (.n (.mv r60)))])
           (.seq (.seq (.ops [.mk (.to q62) .no (.n (.bin .lss r3 (.c (.int .i64 (.ofNat 0) 0))))])
             (.cond r62 (.reg [.op (.mk (.to q63) .no (.n (.mv r0))),
               .op (.mk (.to q64) .no (.n (.nilck r63))),
               .op (.mk (.to q65) .no (.n (.faddr 0 r64))),
               .op (.mk (.to q66) .no (.n (.ld1 r65))),
               .op (.mk (.to q67) .no (.n (.lenS r66))),
               .op (.mk (.to q68) .no (.n (.mv r0))),
               .op (.mk (.to q69) .no (.n (.nilck r68))),
               .op (.mk (.to q70) .no (.n (.faddr 1 r69))),
               .op (.mk (.to q71) .no (.n (.ld1 r70))),
               .op (.mk (.to q72) .no (.n (.bin .sub r67 r71))),
               .op (.mk (.to q3) .no (.n (.mv r72)))])
              .skip))
            (.ops [.mk .ps .no (.e (.call n_lex_lexer_step [r0, r3]))])))
          .ret))))))))))
 [] .no 0
/- (*kiln/lex.lexer).next -/
def af_lex_lexer_next : AF := .mk 1 (.seq (.ops [.mk (.to q2) .no (.a (.alloc 5 [[(.int .i64 (.ofNat 0) 0), (.str 0 0), (.int .i64 (.ofNat 0) 0), (.int .i64 (.ofNat 0) 0), (.int .i64 (.ofNat 0) 0)]])),
  .mk (.to q3) .no (.n (.mv (.c (.int .i64 (.ofNat 0) 0))))])
 (.seq (.ops [.mk .ps .no (.n (.nilck r0)),
   .mk .ps .no (.n (.faddr 2 (.s 0))),
   .mk .ps .no (.n (.ldn 2 (.s 0))),
   .mk .ps .no (.n (.build [(.int .i64 (.ofNat 0) 0), (.str 0 0), (.int .i64 (.ofNat 0) 0), (.int .i64 (.ofNat 0) 0), (.int .i64 (.ofNat 0) 0)] [(3, 2, (.s 0))])),
   .mk (.to q4) .no (.a (.alloc 5 [[(.int .i64 (.ofNat 0) 0), (.str 0 0), (.int .i64 (.ofNat 0) 0), (.int .i64 (.ofNat 0) 0), (.int .i64 (.ofNat 0) 0)]])),
   .mk .no .no (.e (.st 5 r4 (.s 0)))])
  (.seq (.seq (.reg [.op (.mk (.to q14) .no (.n (.mv r0))),
     .op (.mk (.to q15) .no (.n (.nilck r14))),
     .op (.mk (.to q16) .no (.n (.faddr 1 r15))),
     .op (.mk (.to q17) .no (.n (.ld1 r16))),
     .op (.mk (.to q18) .no (.n (.mv r0))),
     .op (.mk (.to q19) .no (.n (.nilck r18))),
     .op (.mk (.to q20) .no (.n (.faddr 0 r19))),
     .op (.mk (.to q21) .no (.n (.ld1 r20))),
     .op (.mk (.to q22) .no (.n (.lenS r21))),
     .op (.mk (.to q23) .no (.n (.eq (.one .int) false r17 r22)))])
    (.cond r23 (.seq (.ops [.mk .ps .no (.n (.ldn 5 r4)),
       .mk .no .no (.e (.st 5 r2 (.s 0))),
       .mk (.to q3) .no (.n (.mv (.c (.int .i64 (.ofNat 0) 0))))])
      .ret)
     .skip))
   (.seq (.reg [.op (.mk (.to q25) .no (.n (.mv r0))),
     .op (.mk (.to q26) .no (.n (.nilck r25))),
     .op (.mk (.to q27) .no (.n (.faddr 0 r26))),
     .op (.mk (.to q28) .no (.n (.ld1 r27))),
     .op (.mk (.to q29) .no (.n (.mv r0))),
     .op (.mk (.to q30) .no (.n (.nilck r29))),
     .op (.mk (.to q31) .no (.n (.faddr 1 r30))),
     .op (.mk (.to q32) .no (.n (.ld1 r31))),
     .op (.mk (.to q33) .no (.n (.idxS r28 r32))),
     .op (.mk (.to q5) .no (.n (.mv r33)))])
    (.seq (.block 0 (.seq (.ops [.mk .ps .no (.e (.call n_lex_great [r5])),
        .mk (.to q53) .no (.n (.mv (.s 0)))])
       (.cond r53 (.ops [.mk .ps .no (.e (.call n_lex_lexer_run [r0, (.c (.fn n_lex_inner [] []))])),
         .mk .ps .no (.n (.faddr 0 r4)),
         .mk .no .no (.e (.st 1 (.s 0) (.c (.int .i64 (.ofNat 2) 0)))),
         .mk .ps .no (.n (.faddr 1 r4)),
         .mk .no .no (.e (.st 1 (.s 0) (.s 2)))])
        (.seq (.ops [.mk .ps .no (.e (.call n_lex_small [r5])),
          .mk (.to q60) .no (.n (.mv (.s 0)))])
         (.cond r60 (.seq (.ops [.mk .ps .no (.e (.call n_lex_lexer_run [r0, (.c (.fn n_lex_inner [] []))])),
            .mk .ps .no (.n (.faddr 0 r4)),
            .mk .no .no (.e (.st 1 (.s 0) (.c (.int .i64 (.ofNat 3) 0)))),
            .mk .ps .no (.n (.faddr 1 r4)),
            .mk .no .no (.e (.st 1 (.s 0) (.s 2)))])
           (.seq (.ops [.mk .ps .no (.n (.faddr 1 r4)),
             .mk .ps .no (.n (.ld1 (.s 0))),
             .mk (.to q69) .no (.e (.call n_lex_words [(.s 0)]))])
            (.cond r69 (.ops [.mk .ps .no (.n (.faddr 0 r4)),
              .mk .no .no (.e (.st 1 (.s 0) (.c (.int .i64 (.ofNat 1) 0))))])
             .skip)))
          (.seq (.ops [.mk .ps .no (.e (.call n_lex_digit [r5])),
            .mk (.to q71) .no (.n (.mv (.s 0)))])
           (.cond r71 (.seq (.ops [.mk .ps .no (.e (.call n_lex_lexer_run [r0, (.c (.fn n_lex_digit [] []))])),
              .mk .ps .no (.n (.faddr 0 r4)),
              .mk .no .no (.e (.st 1 (.s 0) (.c (.int .i64 (.ofNat 4) 0)))),
              .mk .ps .no (.n (.faddr 1 r4)),
              .mk .no .no (.e (.st 1 (.s 0) (.s 2)))])
             (.seq (.ops [.mk (.to q6) .no (.n (.mv (.c (.bool false))))])
              (.seq (.ops [.mk .ps .no (.n (.faddr 1 r4)),
                .mk .ps .no (.n (.ld1 (.s 0))),
                .mk .ps .no (.e (.call n_lex_number [(.s 0)])),
                .mk .ps .no (.n (.ext (.s 0) 0)),
                .mk .ps .no (.n (.ext (.s 1) 1)),
                .mk .ps .no (.n (.faddr 2 r4)),
                .mk .no .no (.e (.st 1 (.s 0) (.s 2))),
                .mk (.to q6) .no (.n (.mv (.s 1)))])
               (.seq (.ops [.mk (.to q86) .no (.n (.not r6))])
                (.cond r86 (.seq (.ops [.mk .ps .no (.n (.build [(.int .i64 (.ofNat 0) 0), (.str 0 0), (.int .i64 (.ofNat 0) 0), (.int .i64 (.ofNat 0) 0), (.int .i64 (.ofNat 0) 0)] [])),
                   .mk .no .no (.e (.st 5 r2 (.s 0))),
                   .mk (.to q3) .no (.n (.mv (.c (.int .i64 (.ofNat 22) 0))))])
                  .ret)
                 .skip)))))
            (.seq (.ops [.mk (.to q34) .no (.n (.ldn 22 (.c (.gptr 0 0)))),
              .mk (.to q35) .no (.n (.mv (.c (.int .i64 (.ofNat 0) 0))))])
             (.block 1 (.loop (.seq (.ops [.mk (.to q36) .no (.n (.bin .lss r35 (.c (.int .i64 (.ofNat 22) 0))))])
                (.seq (.cond r36 .skip
                  (.exit 1))
                 (.seq (.block 2 (.seq (.ops [.mk .ps .no (.n (.idxA 22 r34 r35)),
                     .mk (.to q8) .no (.n (.mv (.s 0)))])
                    (.seq (.reg [.op (.mk (.to q38) .no (.n (.mv r0))),
                      .op (.mk (.to q39) .no (.n (.nilck r38))),
                      .op (.mk (.to q40) .no (.n (.faddr 0 r39))),
                      .op (.mk (.to q41) .no (.n (.ld1 r40))),
                      .op (.mk (.to q42) .no (.n (.mv r0))),
                      .op (.mk (.to q43) .no (.n (.nilck r42))),
                      .op (.mk (.to q44) .no (.n (.faddr 1 r43))),
                      .op (.mk (.to q45) .no (.n (.ld1 r44))),
                      .op (.mk (.to q46) .no (.n (.slcS r41 (some r45) none))),
                      .op (.mk (.to q47) .no (.n (.mv r8))),
                      .op (.mk (.to q48) .no (.e (.call n_strings_HasPrefix [r46, r47])))])
                     (.cond r48 (.seq (.ops [.mk .ps .no (.n (.faddr 0 r4)),
                        .mk .no .no (.e (.st 1 (.s 0) (.c (.int .i64 (.ofNat 5) 0)))),
                        .mk .ps .no (.n (.faddr 1 r4)),
                        .mk .no .no (.e (.st 1 (.s 0) r8))])
                       (.exit 1))
                      .skip))))
                  (.ops [.mk .ps .no (.n (.bin .add r35 (.c (.int .i64 (.ofNat 1) 0)))),
                   .mk (.to q35) .no (.n (.mv (.s 0)))]))))))))))))))
     (.seq (.block 3 (.seq (.ops [.mk .ps .no (.n (.faddr 0 r4)),
         .mk .ps .no (.n (.ld1 (.s 0))),
         .mk .ps .no (.n (.eq (.one .int) false (.s 0) (.c (.int .i64 (.ofNat 0) 0)))),
         .mk (.to q88) .no (.n (.mv (.s 0)))])
        (.cond r88 (.seq (.ops [.mk .ps .no (.n (.build [(.int .i64 (.ofNat 0) 0), (.str 0 0), (.int .i64 (.ofNat 0) 0), (.int .i64 (.ofNat 0) 0), (.int .i64 (.ofNat 0) 0)] [])),
           .mk .no .no (.e (.st 5 r2 (.s 0))),
           .mk (.to q3) .no (.n (.mv (.c (.int .i64 (.ofNat 20) 0))))])
          .ret)
         (.seq (.ops [.mk .ps .no (.n (.faddr 1 r4)),
           .mk .ps .no (.n (.ld1 (.s 0))),
           .mk .ps .no (.n (.lenS (.s 0))),
           .mk .ps .no (.n (.bin .gtr (.s 0) (.c (.int .i64 (.ofNat 40) 0)))),
           .mk .ps (.on (.s 0) true) (.n (.faddr 0 r4)),
           .mk .ps (.on (.s 1) true) (.n (.ld1 (.s 0))),
           .mk .ps (.on (.s 2) true) (.n (.eq (.one .int) true (.s 0) (.c (.int .i64 (.ofNat 4) 0)))),
           .mk .ps .no (.n (.pick (.s 3) (.s 0) (.c (.bool false)))),
           .mk (.to q93) .no (.n (.mv (.s 0)))])
          (.cond r93 (.seq (.ops [.mk .ps .no (.n (.build [(.int .i64 (.ofNat 0) 0), (.str 0 0), (.int .i64 (.ofNat 0) 0), (.int .i64 (.ofNat 0) 0), (.int .i64 (.ofNat 0) 0)] [])),
             .mk .no .no (.e (.st 5 r2 (.s 0))),
             .mk (.to q3) .no (.n (.mv (.c (.int .i64 (.ofNat 4) 0))))])
            .ret)
           .skip)))))
      (.seq (.ops [.mk .ps .no (.n (.faddr 1 r4)),
        .mk .ps .no (.n (.ld1 (.s 0))),
        .mk .ps .no (.n (.lenS (.s 0))),
        .mk .ps .no (.e (.call n_lex_lexer_step [r0, (.s 0)]))])
       (.seq (.ops [.mk .ps .no (.n (.ldn 5 r4)),
         .mk .no .no (.e (.st 5 r2 (.s 0))),
         .mk (.to q3) .no (.n (.mv (.c (.int .i64 (.ofNat 0) 0))))])
        .ret))))))))
 [.celln q2 5, .tmp q3] .no 0
/- (*kiln/parse.parser).want -/
def af_parse_parser_want : AF := .mk 2 (.seq (.ops [.mk (.to q6) .no (.n (.mv r1)),
  .mk (.to q7) .no (.n (.lenL r6)),
  .mk (.to q8) .no (.n (.mv (.c (.int .i64 (.ofNat 0) 0))))])
 (.block 0 (.loop (.seq (.ops [.mk (.to q9) .no (.n (.bin .lss r8 r7))])
    (.seq (.cond r9 .skip
      (.exit 0))
     (.seq (.block 1 (.seq (.ops [.mk .ps .no (.n (.iaddr 1 r6 r8)),
         .mk .ps .no (.n (.ld1 (.s 0))),
         .mk (.to q5) .no (.n (.mv (.s 0)))])
        (.seq (.ops [.mk .ps .no (.e (.call n_parse_parser_take [r0, r5])),
          .mk (.to q15) .no (.n (.not (.s 0)))])
         (.cond r15 (.ops [.mk .ps .no (.e (.call n_parse_parser_fail [r0, (.c (.int .i64 (.ofNat 21) 0))]))])
          .skip))))
      (.ops [.mk .ps .no (.n (.bin .add r8 (.c (.int .i64 (.ofNat 1) 0)))),
       .mk (.to q8) .no (.n (.mv (.s 0)))])))))))
 [] .no 0
/- (*kiln/parse.parser).name -/
def af_parse_parser_name : AF := .mk 2 (.seq (.ops [.mk (.to q4) .no (.n (.mv (.c (.str 0 0))))])
 (.seq (.seq (.ops [.mk .ps .no (.e (.call n_parse_parser_ok [r0])),
    .mk .ps .no (.n (.not (.s 0))),
    .mk .ps (.on (.s 0) false) (.n (.mv r0)),
    .mk .ps (.on (.s 1) false) (.n (.nilck (.s 0))),
    .mk .ps (.on (.s 2) false) (.n (.faddr 0 (.s 0))),
    .mk .ps (.on (.s 3) false) (.n (.ld1 (.s 0))),
    .mk .ps (.on (.s 4) false) (.n (.iaddr 5 (.s 0) (.c (.int .i64 (.ofNat 0) 0)))),
    .mk .ps (.on (.s 5) false) (.n (.faddr 0 (.s 0))),
    .mk .ps (.on (.s 6) false) (.n (.ld1 (.s 0))),
    .mk .ps (.on (.s 7) false) (.n (.mv r1)),
    .mk .ps (.on (.s 8) false) (.n (.eq (.one .int) true (.s 1) (.s 0))),
    .mk (.to q18) .no (.n (.pick (.s 9) (.c (.bool true)) (.s 0)))])
   (.cond r18 (.seq (.ops [.mk .ps .no (.e (.call n_parse_parser_fail [r0, (.c (.int .i64 (.ofNat 21) 0))]))])
     (.seq (.ops [.mk (.to q4) .no (.n (.mv (.c (.str 0 0))))])
      .ret))
    .skip))
  (.seq (.ops [.mk .ps .no (.e (.call n_parse_parser_next [r0])),
    .mk .ps .no (.n (.field1 1 (.s 0))),
    .mk (.to q4) .no (.n (.mv (.s 0)))])
   .ret)))
 [.tmp q4] .no 0
/- (*kiln/parse.parser).take -/
def af_parse_parser_take : AF := .mk 2 (.seq (.ops [.mk (.to q4) .no (.n (.mv (.c (.bool false))))])
 (.seq (.seq (.ops [.mk .ps .no (.a (.bslice 1 1 [(.str 0 0)] [(0, r1)])),
    .mk .ps .no (.e (.call n_parse_parser_is [r0, (.s 0)])),
    .mk (.to q9) .no (.n (.not (.s 0)))])
   (.cond r9 (.seq (.ops [.mk (.to q4) .no (.n (.mv (.c (.bool false))))])
     .ret)
    .skip))
  (.seq (.ops [.mk .ps .no (.e (.call n_parse_parser_next [r0]))])
   (.seq (.ops [.mk (.to q4) .no (.n (.mv (.c (.bool true))))])
    .ret))))
 [.tmp q4] .no 0
/- (*kiln/parse.parser).typ -/
def af_parse_parser_typ : AF := .mk 1 (.seq (.ops [.mk (.to q2) .no (.a (.alloc 2 [[(.str 0 0), (.bool false)]]))])
 (.seq (.ops [.mk .ps .no (.e (.call n_parse_parser_base [r0])),
   .mk (.to q3) .no (.a (.alloc 2 [[(.str 0 0), (.bool false)]])),
   .mk .no .no (.e (.st 2 r3 (.s 0)))])
  (.seq (.seq (.ops [.mk (.to q7) .no (.e (.call n_parse_parser_take [r0, (.c (.str 1 91))]))])
    (.cond r7 (.seq (.ops [.mk .ps .no (.a (.bslice 1 1 [(.str 0 0)] [(0, (.c (.str 1 93)))])),
       .mk .ps .no (.e (.call n_parse_parser_want [r0, (.s 0)]))])
      (.ops [.mk .ps .no (.n (.faddr 1 r3)),
       .mk .no .no (.e (.st 1 (.s 0) (.c (.bool true))))]))
     .skip))
   (.seq (.ops [.mk .ps .no (.n (.ldn 2 r3)),
     .mk .no .no (.e (.st 2 r2 (.s 0)))])
    .ret))))
 [.celln q2 2] .no 0
/- (*kiln/parse.parser).many -/
def af_parse_parser_many : AF := .mk 2 (.seq (.ops [.mk (.to q5) .no (.n (.bin .gtr r1 (.c (.int .i64 (.ofNat 200) 0))))])
 (.cond r5 (.ops [.mk .ps .no (.e (.call n_parse_parser_fail [r0, (.c (.int .i64 (.ofNat 4) 0))]))])
  .skip))
 [] .no 0
/- (*kiln/parse.parser).is -/
def af_parse_parser_is : AF := .mk 2 (.seq (.ops [.mk (.to q4) .no (.n (.mv (.c (.bool false))))])
 (.seq (.seq (.ops [.mk (.to q7) .no (.n (.mv r1)),
    .mk (.to q8) .no (.n (.lenL r7)),
    .mk (.to q9) .no (.n (.mv (.c (.int .i64 (.ofNat 0) 0))))])
   (.block 0 (.loop (.seq (.ops [.mk (.to q10) .no (.n (.bin .lss r9 r8))])
      (.seq (.cond r10 .skip
        (.exit 0))
       (.seq (.block 1 (.seq (.ops [.mk .ps .no (.n (.iaddr 1 r7 r9)),
           .mk .ps .no (.n (.ld1 (.s 0))),
           .mk (.to q6) .no (.n (.mv (.s 0)))])
          (.seq (.ops [.mk .ps .no (.e (.call n_parse_parser_ok [r0])),
            .mk .ps (.on (.s 0) true) (.n (.mv r0)),
            .mk .ps (.on (.s 1) true) (.n (.nilck (.s 0))),
            .mk .ps (.on (.s 2) true) (.n (.faddr 0 (.s 0))),
            .mk .ps (.on (.s 3) true) (.n (.ld1 (.s 0))),
            .mk .ps (.on (.s 4) true) (.n (.iaddr 5 (.s 0) (.c (.int .i64 (.ofNat 0) 0)))),
            .mk .ps (.on (.s 5) true) (.n (.faddr 0 (.s 0))),
            .mk .ps (.on (.s 6) true) (.n (.ld1 (.s 0))),
            .mk .ps (.on (.s 7) true) (.n (.eq (.one .int) false (.s 0) (.c (.int .i64 (.ofNat 1) 0)))),
            .mk .ps (.on (.s 8) true) (.n (.mv (.s 0))),
            .mk .ps (.on (.s 0) false) (.n (.mv r0)),
            .mk .ps (.on (.s 1) false) (.n (.nilck (.s 0))),
            .mk .ps (.on (.s 2) false) (.n (.faddr 0 (.s 0))),
            .mk .ps (.on (.s 3) false) (.n (.ld1 (.s 0))),
            .mk .ps (.on (.s 4) false) (.n (.iaddr 5 (.s 0) (.c (.int .i64 (.ofNat 0) 0)))),
            .mk .ps (.on (.s 5) false) (.n (.faddr 0 (.s 0))),
            .mk .ps (.on (.s 6) false) (.n (.ld1 (.s 0))),
            .mk .ps (.on (.s 7) false) (.n (.eq (.one .int) false (.s 0) (.c (.int .i64 (.ofNat 5) 0)))),
            .mk .ps (.on (.s 17) true) (.n (.pick (.s 8) (.c (.bool true)) (.s 0))),
            .mk .ps .no (.n (.pick (.s 18) (.s 0) (.c (.bool false)))),
            .mk .ps (.on (.s 0) true) (.n (.mv r0)),
            .mk .ps (.on (.s 1) true) (.n (.nilck (.s 0))),
            .mk .ps (.on (.s 2) true) (.n (.faddr 0 (.s 0))),
            .mk .ps (.on (.s 3) true) (.n (.ld1 (.s 0))),
            .mk .ps (.on (.s 4) true) (.n (.iaddr 5 (.s 0) (.c (.int .i64 (.ofNat 0) 0)))),
            .mk .ps (.on (.s 5) true) (.n (.faddr 1 (.s 0))),
            .mk .ps (.on (.s 6) true) (.n (.ld1 (.s 0))),
            .mk .ps (.on (.s 7) true) (.n (.mv r6)),
            .mk .ps (.on (.s 8) true) (.n (.eq (.one .str) false (.s 1) (.s 0))),
            .mk (.to q45) .no (.n (.pick (.s 9) (.s 0) (.c (.bool false))))])
           (.cond r45 (.seq (.ops [.mk (.to q4) .no (.n (.mv (.c (.bool true))))])
             .ret)
            .skip))))
        (.ops [.mk .ps .no (.n (.bin .add r9 (.c (.int .i64 (.ofNat 1) 0)))),
         .mk (.to q9) .no (.n (.mv (.s 0)))])))))))
  (.seq (.ops [.mk (.to q4) .no (.n (.mv (.c (.bool false))))])
   .ret)))
 [.tmp q4] .no 0
/- (*kiln/parse.parser).method -/
def af_parse_parser_method : AF := .mk 1 (.seq (.ops [.mk (.to q2) .no (.a (.alloc 8 [[(.int .i64 (.ofNat 0) 0), (.int .i64 (.ofNat 0) 0), (.str 0 0), (.bool false), .nils, (.str 0 0), (.bool false), .nils]]))])
 (.seq (.ops [.mk .ps .no (.n (.nilck r0)),
   .mk .ps .no (.n (.faddr 0 (.s 0))),
   .mk .ps .no (.n (.ld1 (.s 0))),
   .mk .ps .no (.n (.iaddr 5 (.s 0) (.c (.int .i64 (.ofNat 0) 0)))),
   .mk .ps .no (.n (.faddr 3 (.s 0))),
   .mk .ps .no (.n (.ldn 2 (.s 0))),
   .mk (.to q3) .no (.a (.alloc 2 [[(.int .i64 (.ofNat 0) 0), (.int .i64 (.ofNat 0) 0)]])),
   .mk .no .no (.e (.st 2 r3 (.s 0)))])
  (.seq (.reg [.op (.mk (.to q13) .no (.n (.ldn 2 r3))),
    .op (.mk (.to q14) .no (.n (.mv r0))),
    .op (.mk (.to q4) .no (.a (.alloc 8 [[(.int .i64 (.ofNat 0) 0), (.int .i64 (.ofNat 0) 0), (.str 0 0), (.bool false), .nils, (.str 0 0), (.bool false), .nils]]))),
    .op (.mk (.to q15) .no (.e (.call n_parse_parser_take [r14, (.c (.str 6 109304575259763))]))),
    .re q13 .no (.ldn 2 r3),
    .op (.mk (.to q16) .no (.n (.build [(.int .i64 (.ofNat 0) 0), (.int .i64 (.ofNat 0) 0), (.str 0 0), (.bool false), .nils, (.str 0 0), (.bool false), .nils] [(0, 2, r13), (3, 1, r15)]))),
    .op (.mk .no .no (.e (.st 8 r4 r16)))])
   (.seq (.ops [.mk .ps .no (.a (.bslice 1 1 [(.str 0 0)] [(0, (.c (.str 6 110429656606061)))])),
     .mk .ps .no (.e (.call n_parse_parser_want [r0, (.s 0)]))])
    (.seq (.ops [.mk .ps .no (.e (.call n_parse_parser_typ [r0])),
      .mk .ps .no (.n (.faddr 5 r4)),
      .mk .no .no (.e (.st 2 (.s 0) (.s 1)))])
     (.seq (.ops [.mk .ps .no (.e (.call n_parse_parser_name [r0, (.c (.int .i64 (.ofNat 3) 0))])),
       .mk .ps .no (.n (.faddr 2 r4)),
       .mk .no .no (.e (.st 1 (.s 0) (.s 1)))])
      (.seq (.ops [.mk .ps .no (.a (.bslice 1 1 [(.str 0 0)] [(0, (.c (.str 1 40)))])),
        .mk .ps .no (.e (.call n_parse_parser_want [r0, (.s 0)]))])
       (.seq (.block 0 (.loop (.seq (.seq (.ops [.mk .ps .no (.e (.call n_parse_parser_ok [r0])),
             .mk .ps (.on (.s 0) true) (.n (.mv r0)),
             .mk .ps (.on (.s 1) true) (.e (.call n_parse_parser_take [(.s 0), (.c (.str 1 41))])),
             .mk .ps (.on (.s 2) true) (.n (.not (.s 0))),
             .mk (.to q35) .no (.n (.pick (.s 3) (.s 0) (.c (.bool false))))])
            (.cond r35 .skip
             (.exit 0)))
           (.block 1 (.seq (.seq (.ops [.mk .ps .no (.n (.faddr 4 r4)),
               .mk .ps .no (.n (.ld1 (.s 0))),
               .mk .ps .no (.n (.lenL (.s 0))),
               .mk (.to q39) .no (.n (.bin .gtr (.s 0) (.c (.int .i64 (.ofNat 0) 0))))])
              (.cond r39 (.ops [.mk .ps .no (.a (.bslice 1 1 [(.str 0 0)] [(0, (.c (.str 1 44)))])),
                .mk .ps .no (.e (.call n_parse_parser_want [r0, (.s 0)]))])
               .skip))
             (.seq (.ops [.mk .ps .no (.e (.call n_parse_parser_typ [r0])),
               .mk (.to q5) .no (.a (.alloc 2 [[(.str 0 0), (.bool false)]])),
               .mk .no .no (.e (.st 2 r5 (.s 0)))])
              (.seq (.reg [.op (.mk (.to q45) .no (.n (.faddr 4 r4))),
                .op (.mk (.to q46) .no (.n (.ld1 r45))),
                .op (.mk (.to q47) .no (.n (.mv r0))),
                .op (.mk (.to q49) .no (.n (.ldn 2 r5))),
                .op (.mk (.to q48) .no (.e (.call n_parse_parser_name [r47, (.c (.int .i64 (.ofNat 3) 0))]))),
                .re q46 .no (.ld1 r45),
                .re q49 .no (.ldn 2 r5),
                .op (.mk (.to q50) .no (.n (.build [(.str 0 0), (.str 0 0), (.bool false)] [(0, 1, r48), (1, 2, r49)]))),
                .op (.mk (.to q51) .no (.a (.bslice 3 1 [(.str 0 0), (.str 0 0), (.bool false)] [(0, r50)]))),
                .op (.mk (.to q52) .no (.e (.app 3 40 r46 r51))),
                .op (.mk (.to q53) .no (.n (.faddr 4 r4))),
                .op (.mk .no .no (.e (.st 1 r53 r52)))])
               (.ops [.mk .ps .no (.n (.faddr 4 r4)),
                .mk .ps .no (.n (.ld1 (.s 0))),
                .mk .ps .no (.n (.lenL (.s 0))),
                .mk .ps .no (.e (.call n_parse_parser_many [r0, (.s 0)]))]))))))))
        (.seq (.ops [.mk .ps .no (.e (.call n_parse_parser_block [r0])),
          .mk .ps .no (.n (.faddr 7 r4)),
          .mk .no .no (.e (.st 1 (.s 0) (.s 1)))])
         (.seq (.ops [.mk .ps .no (.n (.ldn 8 r4)),
           .mk .no .no (.e (.st 8 r2 (.s 0)))])
          .ret))))))))))
 [.celln q2 8] .no 0
/- (*kiln/parse.parser).fail -/
def af_parse_parser_fail : AF := .mk 2 (.seq (.ops [.mk .ps .no (.n (.nilck r0)),
  .mk .ps .no (.n (.faddr 2 (.s 0))),
  .mk .ps .no (.n (.faddr 0 (.s 0))),
  .mk .ps .no (.n (.ld1 (.s 0))),
  .mk (.to q9) .no (.n (.eq (.one .int) false (.s 0) (.c (.int .i64 (.ofNat 0) 0))))])
 (.cond r9 (.ops [.mk .ps .no (.n (.nilck r0)),
   .mk .ps .no (.n (.faddr 0 (.s 0))),
   .mk .ps .no (.n (.ld1 (.s 0))),
   .mk .ps .no (.n (.iaddr 5 (.s 0) (.c (.int .i64 (.ofNat 0) 0)))),
   .mk .ps .no (.n (.faddr 3 (.s 0))),
   .mk .ps .no (.n (.ldn 2 (.s 0))),
   .mk .ps .no (.n (.build [(.int .i64 (.ofNat 0) 0), (.int .i64 (.ofNat 0) 0), (.int .i64 (.ofNat 0) 0)] [(0, 1, r1), (1, 2, (.s 0))])),
   .mk .ps .no (.n (.nilck r0)),
   .mk .ps .no (.n (.faddr 2 (.s 0))),
   .mk .no .no (.e (.st 3 (.s 0) (.s 2)))])
  .skip))
 [] .no 0
/- internal/strconv.small -/
def af_internal_strconv_small : AF := .mk 1 (.seq (.ops [.mk (.to q2) .no (.n (.mv (.c (.str 0 0))))])
 (.seq (.seq (.ops [.mk (.to q4) .no (.n (.bin .lss r0 (.c (.int .i64 (.ofNat 10) 0))))])
   (.cond r4 (.seq (.ops [.mk .ps .no (.n (.bin .add r0 (.c (.int .i64 (.ofNat 1) 0)))),
      .mk .ps .no (.n (.slcS (.c (.str 36 237927390410950444456928663707796224754864904193074819559483181009558347043374296609072)) (some r0) (some (.s 0)))),
      .mk (.to q2) .no (.n (.mv (.s 0)))])
     .ret)
    .skip))
  (.seq (.ops [.mk .ps .no (.n (.bin .mul r0 (.c (.int .i64 (.ofNat 2) 0)))),
    .mk .ps .no (.n (.bin .mul r0 (.c (.int .i64 (.ofNat 2) 0)))),
    .mk .ps .no (.n (.bin .add (.s 0) (.c (.int .i64 (.ofNat 2) 0)))),
    .mk .ps .no (.n (.slcS (.c (.str 200 9938655150514779720929161263213647789093395803754561035662628441001274968862597953692946393464194303251501229616933063375291039650253924995779037586872666250072396106842829501851083234932712366962979930255066872747696324303968523733872590022915936937156789320557469720923390131174387415513794469201054844961267015441141542819553679203788501627738430154234325528792480477051962324423099068299719245009424585859096469223093538032153047611602695245052081125123941502624659711709950000)) (some (.s 2)) (some (.s 0)))),
    .mk (.to q2) .no (.n (.mv (.s 0)))])
   .ret)))
 [.tmp q2] .no 0
/- internal/strconv.numDigits -/
def af_internal_strconv_numDigits : AF := .mk 1 (.seq (.ops [.mk (.to q2) .no (.n (.mv (.c (.int .i64 (.ofNat 0) 0))))])
 (.seq (.ops [.mk .ps .no (.e (.call n_math_bits_Len64 [r0])),
   .mk .ps .no (.e (.call n_internal_strconv_log10Pow2 [(.s 0)])),
   .mk (.to q3) .no (.n (.mv (.s 0)))])
  (.seq (.ops [.mk .ps .no (.n (.iaddrA 20 1 (.c (.gptr 1 0)) r3)),
    .mk .ps .no (.n (.ld1 (.s 0))),
    .mk .ps .no (.n (.bin .geq r0 (.s 0))),
    .mk .ps .no (.e (.call n_internal_strconv_bool2_int [(.s 0)])),
    .mk .ps .no (.n (.bin .add r3 (.s 0))),
    .mk (.to q2) .no (.n (.mv (.s 0)))])
   .ret)))
 [.tmp q2] .no 0
/- internal/strconv.formatBase10 -/
def af_internal_strconv_formatBase10 : AF := .mk 2 (.seq (.ops [.mk .ps .no (.n (.lenL r0)),
  .mk (.to q4) .no (.n (.mv (.s 0)))])
 (.seq (.block 0 (.loop (.seq (.seq (.ops [.mk (.to q20) .no (.n (.bin .geq r4 (.c (.int .i64 (.ofNat 8) 0))))])
      (.cond r20 .skip
       (.exit 0)))
     (.block 1 (.seq (.ops [.mk .ps .no (.n (.bin .rem r1 (.c (.int .u64 (.ofNat 100000000) 0)))),
        .mk .ps .no (.n (.cvi .u32 (.s 0))),
        .mk (.to q5) .no (.n (.mv (.s 0)))])
       (.seq (.ops [.mk .ps .no (.n (.bin .quo r1 (.c (.int .u64 (.ofNat 100000000) 0)))),
         .mk (.to q1) .no (.n (.mv (.s 0)))])
        (.seq (.ops [.mk .ps .no (.n (.bin .quo r5 (.c (.int .u32 (.ofNat 10000) 0)))),
          .mk .ps .no (.n (.bin .rem r5 (.c (.int .u32 (.ofNat 10000) 0)))),
          .mk (.to q6) .no (.n (.mv (.s 1))),
          .mk (.to q7) .no (.n (.mv (.s 0)))])
         (.seq (.ops [.mk .ps .no (.n (.bin .quo r7 (.c (.int .u32 (.ofNat 100) 0)))),
           .mk .ps .no (.n (.bin .mul (.s 0) (.c (.int .u32 (.ofNat 2) 0)))),
           .mk .ps .no (.n (.bin .rem r7 (.c (.int .u32 (.ofNat 100) 0)))),
           .mk .ps .no (.n (.bin .mul (.s 0) (.c (.int .u32 (.ofNat 2) 0)))),
           .mk (.to q8) .no (.n (.mv (.s 2))),
           .mk (.to q9) .no (.n (.mv (.s 0)))])
          (.seq (.ops [.mk .ps .no (.n (.bin .quo r6 (.c (.int .u32 (.ofNat 100) 0)))),
            .mk .ps .no (.n (.bin .mul (.s 0) (.c (.int .u32 (.ofNat 2) 0)))),
            .mk .ps .no (.n (.bin .rem r6 (.c (.int .u32 (.ofNat 100) 0)))),
            .mk .ps .no (.n (.bin .mul (.s 0) (.c (.int .u32 (.ofNat 2) 0)))),
            .mk (.to q10) .no (.n (.mv (.s 2))),
            .mk (.to q11) .no (.n (.mv (.s 0)))])
           (.seq (.reg [.op (.mk (.to q42) .no (.n (.mv r0))),
             .op (.mk (.to q43) .no (.n (.mv r4))),
             .op (.mk (.to q44) .no (.n (.bin .sub r43 (.c (.int .i64 (.ofNat 1) 0))))),
             .op (.mk (.to q45) .no (.n (.mv r0))),
             .op (.mk (.to q46) .no (.n (.mv r4))),
             .op (.mk (.to q47) .no (.n (.bin .sub r46 (.c (.int .i64 (.ofNat 2) 0))))),
             .op (.mk (.to q48) .no (.n (.mv r9))),
             .op (.mk (.to q49) .no (.n (.bin .add r48 (.c (.int .u32 (.ofNat 1) 0))))),
             .op (.mk (.to q50) .no (.n (.idxS (.c (.str 200 9938655150514779720929161263213647789093395803754561035662628441001274968862597953692946393464194303251501229616933063375291039650253924995779037586872666250072396106842829501851083234932712366962979930255066872747696324303968523733872590022915936937156789320557469720923390131174387415513794469201054844961267015441141542819553679203788501627738430154234325528792480477051962324423099068299719245009424585859096469223093538032153047611602695245052081125123941502624659711709950000)) r49))),
             .op (.mk (.to q51) .no (.n (.mv r9))),
             .op (.mk (.to q52) .no (.n (.idxS (.c (.str 200 9938655150514779720929161263213647789093395803754561035662628441001274968862597953692946393464194303251501229616933063375291039650253924995779037586872666250072396106842829501851083234932712366962979930255066872747696324303968523733872590022915936937156789320557469720923390131174387415513794469201054844961267015441141542819553679203788501627738430154234325528792480477051962324423099068299719245009424585859096469223093538032153047611602695245052081125123941502624659711709950000)) r51))),
             .op (.mk (.to q53) .no (.n (.iaddr 1 r42 r44))),
             .op (.mk .no .no (.e (.st 1 r53 r50))),
             .op (.mk (.to q54) .no (.n (.iaddr 1 r45 r47))),
             .op (.mk .no .no (.e (.st 1 r54 r52)))])
            (.seq (.reg [.op (.mk (.to q55) .no (.n (.mv r0))),
              .op (.mk (.to q56) .no (.n (.mv r4))),
              .op (.mk (.to q57) .no (.n (.bin .sub r56 (.c (.int .i64 (.ofNat 3) 0))))),
              .op (.mk (.to q58) .no (.n (.mv r0))),
              .op (.mk (.to q59) .no (.n (.mv r4))),
              .op (.mk (.to q60) .no (.n (.bin .sub r59 (.c (.int .i64 (.ofNat 4) 0))))),
              .op (.mk (.to q61) .no (.n (.mv r8))),
              .op (.mk (.to q62) .no (.n (.bin .add r61 (.c (.int .u32 (.ofNat 1) 0))))),
              .op (.mk (.to q63) .no (.n (.idxS (.c (.str 200 9938655150514779720929161263213647789093395803754561035662628441001274968862597953692946393464194303251501229616933063375291039650253924995779037586872666250072396106842829501851083234932712366962979930255066872747696324303968523733872590022915936937156789320557469720923390131174387415513794469201054844961267015441141542819553679203788501627738430154234325528792480477051962324423099068299719245009424585859096469223093538032153047611602695245052081125123941502624659711709950000)) r62))),
              .op (.mk (.to q64) .no (.n (.mv r8))),
              .op (.mk (.to q65) .no (.n (.idxS (.c (.str 200 9938655150514779720929161263213647789093395803754561035662628441001274968862597953692946393464194303251501229616933063375291039650253924995779037586872666250072396106842829501851083234932712366962979930255066872747696324303968523733872590022915936937156789320557469720923390131174387415513794469201054844961267015441141542819553679203788501627738430154234325528792480477051962324423099068299719245009424585859096469223093538032153047611602695245052081125123941502624659711709950000)) r64))),
              .op (.mk (.to q66) .no (.n (.iaddr 1 r55 r57))),
              .op (.mk .no .no (.e (.st 1 r66 r63))),
              .op (.mk (.to q67) .no (.n (.iaddr 1 r58 r60))),
              .op (.mk .no .no (.e (.st 1 r67 r65)))])
             (.seq (.reg [.op (.mk (.to q68) .no (.n (.mv r0))),
               .op (.mk (.to q69) .no (.n (.mv r4))),
               .op (.mk (.to q70) .no (.n (.bin .sub r69 (.c (.int .i64 (.ofNat 5) 0))))),
               .op (.mk (.to q71) .no (.n (.mv r0))),
               .op (.mk (.to q72) .no (.n (.mv r4))),
               .op (.mk (.to q73) .no (.n (.bin .sub r72 (.c (.int .i64 (.ofNat 6) 0))))),
               .op (.mk (.to q74) .no (.n (.mv r11))),
               .op (.mk (.to q75) .no (.n (.bin .add r74 (.c (.int .u32 (.ofNat 1) 0))))),
               .op (.mk (.to q76) .no (.n (.idxS (.c (.str 200 9938655150514779720929161263213647789093395803754561035662628441001274968862597953692946393464194303251501229616933063375291039650253924995779037586872666250072396106842829501851083234932712366962979930255066872747696324303968523733872590022915936937156789320557469720923390131174387415513794469201054844961267015441141542819553679203788501627738430154234325528792480477051962324423099068299719245009424585859096469223093538032153047611602695245052081125123941502624659711709950000)) r75))),
               .op (.mk (.to q77) .no (.n (.mv r11))),
               .op (.mk (.to q78) .no (.n (.idxS (.c (.str 200 9938655150514779720929161263213647789093395803754561035662628441001274968862597953692946393464194303251501229616933063375291039650253924995779037586872666250072396106842829501851083234932712366962979930255066872747696324303968523733872590022915936937156789320557469720923390131174387415513794469201054844961267015441141542819553679203788501627738430154234325528792480477051962324423099068299719245009424585859096469223093538032153047611602695245052081125123941502624659711709950000)) r77))),
               .op (.mk (.to q79) .no (.n (.iaddr 1 r68 r70))),
               .op (.mk .no .no (.e (.st 1 r79 r76))),
               .op (.mk (.to q80) .no (.n (.iaddr 1 r71 r73))),
               .op (.mk .no .no (.e (.st 1 r80 r78)))])
              (.seq (.reg [.op (.mk (.to q81) .no (.n (.mv r0))),
                .op (.mk (.to q82) .no (.n (.mv r4))),
                .op (.mk (.to q83) .no (.n (.bin .sub r82 (.c (.int .i64 (.ofNat 7) 0))))),
                .op (.mk (.to q84) .no (.n (.mv r0))),
                .op (.mk (.to q85) .no (.n (.mv r4))),
                .op (.mk (.to q86) .no (.n (.bin .sub r85 (.c (.int .i64 (.ofNat 8) 0))))),
                .op (.mk (.to q87) .no (.n (.mv r10))),
                .op (.mk (.to q88) .no (.n (.bin .add r87 (.c (.int .u32 (.ofNat 1) 0))))),
                .op (.mk (.to q89) .no (.n (.idxS (.c (.str 200 9938655150514779720929161263213647789093395803754561035662628441001274968862597953692946393464194303251501229616933063375291039650253924995779037586872666250072396106842829501851083234932712366962979930255066872747696324303968523733872590022915936937156789320557469720923390131174387415513794469201054844961267015441141542819553679203788501627738430154234325528792480477051962324423099068299719245009424585859096469223093538032153047611602695245052081125123941502624659711709950000)) r88))),
                .op (.mk (.to q90) .no (.n (.mv r10))),
                .op (.mk (.to q91) .no (.n (.idxS (.c (.str 200 9938655150514779720929161263213647789093395803754561035662628441001274968862597953692946393464194303251501229616933063375291039650253924995779037586872666250072396106842829501851083234932712366962979930255066872747696324303968523733872590022915936937156789320557469720923390131174387415513794469201054844961267015441141542819553679203788501627738430154234325528792480477051962324423099068299719245009424585859096469223093538032153047611602695245052081125123941502624659711709950000)) r90))),
                .op (.mk (.to q92) .no (.n (.iaddr 1 r81 r83))),
                .op (.mk .no .no (.e (.st 1 r92 r89))),
                .op (.mk (.to q93) .no (.n (.iaddr 1 r84 r86))),
                .op (.mk .no .no (.e (.st 1 r93 r91)))])
               (.ops [.mk .ps .no (.n (.bin .sub r4 (.c (.int .i64 (.ofNat 8) 0)))),
                .mk (.to q4) .no (.n (.mv (.s 0)))]))))))))))))))
  (.seq (.ops [.mk .ps .no (.n (.cvi .u32 r1)),
    .mk (.to q12) .no (.n (.mv (.s 0)))])
   (.seq (.seq (.ops [.mk (.to q99) .no (.n (.bin .geq r4 (.c (.int .i64 (.ofNat 4) 0))))])
     (.cond r99 (.seq (.ops [.mk .ps .no (.n (.bin .rem r12 (.c (.int .u32 (.ofNat 10000) 0)))),
        .mk (.to q13) .no (.n (.mv (.s 0)))])
       (.seq (.ops [.mk .ps .no (.n (.bin .quo r12 (.c (.int .u32 (.ofNat 10000) 0)))),
         .mk (.to q12) .no (.n (.mv (.s 0)))])
        (.seq (.ops [.mk .ps .no (.n (.bin .quo r13 (.c (.int .u32 (.ofNat 100) 0)))),
          .mk .ps .no (.n (.bin .mul (.s 0) (.c (.int .u32 (.ofNat 2) 0)))),
          .mk .ps .no (.n (.bin .rem r13 (.c (.int .u32 (.ofNat 100) 0)))),
          .mk .ps .no (.n (.bin .mul (.s 0) (.c (.int .u32 (.ofNat 2) 0)))),
          .mk (.to q14) .no (.n (.mv (.s 2))),
          .mk (.to q15) .no (.n (.mv (.s 0)))])
         (.seq (.reg [.op (.mk (.to q110) .no (.n (.mv r0))),
           .op (.mk (.to q111) .no (.n (.mv r4))),
           .op (.mk (.to q112) .no (.n (.bin .sub r111 (.c (.int .i64 (.ofNat 1) 0))))),
           .op (.mk (.to q113) .no (.n (.mv r0))),
           .op (.mk (.to q114) .no (.n (.mv r4))),
           .op (.mk (.to q115) .no (.n (.bin .sub r114 (.c (.int .i64 (.ofNat 2) 0))))),
           .op (.mk (.to q116) .no (.n (.mv r15))),
           .op (.mk (.to q117) .no (.n (.bin .add r116 (.c (.int .u32 (.ofNat 1) 0))))),
           .op (.mk (.to q118) .no (.n (.idxS (.c (.str 200 9938655150514779720929161263213647789093395803754561035662628441001274968862597953692946393464194303251501229616933063375291039650253924995779037586872666250072396106842829501851083234932712366962979930255066872747696324303968523733872590022915936937156789320557469720923390131174387415513794469201054844961267015441141542819553679203788501627738430154234325528792480477051962324423099068299719245009424585859096469223093538032153047611602695245052081125123941502624659711709950000)) r117))),
           .op (.mk (.to q119) .no (.n (.mv r15))),
           .op (.mk (.to q120) .no (.n (.idxS (.c (.str 200 9938655150514779720929161263213647789093395803754561035662628441001274968862597953692946393464194303251501229616933063375291039650253924995779037586872666250072396106842829501851083234932712366962979930255066872747696324303968523733872590022915936937156789320557469720923390131174387415513794469201054844961267015441141542819553679203788501627738430154234325528792480477051962324423099068299719245009424585859096469223093538032153047611602695245052081125123941502624659711709950000)) r119))),
           .op (.mk (.to q121) .no (.n (.iaddr 1 r110 r112))),
           .op (.mk .no .no (.e (.st 1 r121 r118))),
           .op (.mk (.to q122) .no (.n (.iaddr 1 r113 r115))),
           .op (.mk .no .no (.e (.st 1 r122 r120)))])
          (.seq (.reg [.op (.mk (.to q123) .no (.n (.mv r0))),
            .op (.mk (.to q124) .no (.n (.mv r4))),
            .op (.mk (.to q125) .no (.n (.bin .sub r124 (.c (.int .i64 (.ofNat 3) 0))))),
            .op (.mk (.to q126) .no (.n (.mv r0))),
            .op (.mk (.to q127) .no (.n (.mv r4))),
            .op (.mk (.to q128) .no (.n (.bin .sub r127 (.c (.int .i64 (.ofNat 4) 0))))),
            .op (.mk (.to q129) .no (.n (.mv r14))),
            .op (.mk (.to q130) .no (.n (.bin .add r129 (.c (.int .u32 (.ofNat 1) 0))))),
            .op (.mk (.to q131) .no (.n (.idxS (.c (.str 200 9938655150514779720929161263213647789093395803754561035662628441001274968862597953692946393464194303251501229616933063375291039650253924995779037586872666250072396106842829501851083234932712366962979930255066872747696324303968523733872590022915936937156789320557469720923390131174387415513794469201054844961267015441141542819553679203788501627738430154234325528792480477051962324423099068299719245009424585859096469223093538032153047611602695245052081125123941502624659711709950000)) r130))),
            .op (.mk (.to q132) .no (.n (.mv r14))),
            .op (.mk (.to q133) .no (.n (.idxS (.c (.str 200 9938655150514779720929161263213647789093395803754561035662628441001274968862597953692946393464194303251501229616933063375291039650253924995779037586872666250072396106842829501851083234932712366962979930255066872747696324303968523733872590022915936937156789320557469720923390131174387415513794469201054844961267015441141542819553679203788501627738430154234325528792480477051962324423099068299719245009424585859096469223093538032153047611602695245052081125123941502624659711709950000)) r132))),
            .op (.mk (.to q134) .no (.n (.iaddr 1 r123 r125))),
            .op (.mk .no .no (.e (.st 1 r134 r131))),
            .op (.mk (.to q135) .no (.n (.iaddr 1 r126 r128))),
            .op (.mk .no .no (.e (.st 1 r135 r133)))])
           (.ops [.mk .ps .no (.n (.bin .sub r4 (.c (.int .i64 (.ofNat 4) 0)))),
            .mk (.to q4) .no (.n (.mv (.s 0)))]))))))
      .skip))
    (.seq (.seq (.ops [.mk (.to q139) .no (.n (.bin .geq r4 (.c (.int .i64 (.ofNat 2) 0))))])
      (.cond r139 (.seq (.ops [.mk .ps .no (.n (.bin .rem r12 (.c (.int .u32 (.ofNat 100) 0)))),
         .mk .ps .no (.n (.bin .mul (.s 0) (.c (.int .u32 (.ofNat 2) 0)))),
         .mk (.to q16) .no (.n (.mv (.s 0)))])
        (.seq (.ops [.mk .ps .no (.n (.bin .quo r12 (.c (.int .u32 (.ofNat 100) 0)))),
          .mk (.to q12) .no (.n (.mv (.s 0)))])
         (.seq (.reg [.op (.mk (.to q145) .no (.n (.mv r0))),
           .op (.mk (.to q146) .no (.n (.mv r4))),
           .op (.mk (.to q147) .no (.n (.bin .sub r146 (.c (.int .i64 (.ofNat 1) 0))))),
           .op (.mk (.to q148) .no (.n (.mv r0))),
           .op (.mk (.to q149) .no (.n (.mv r4))),
           .op (.mk (.to q150) .no (.n (.bin .sub r149 (.c (.int .i64 (.ofNat 2) 0))))),
           .op (.mk (.to q151) .no (.n (.mv r16))),
           .op (.mk (.to q152) .no (.n (.bin .add r151 (.c (.int .u32 (.ofNat 1) 0))))),
           .op (.mk (.to q153) .no (.n (.idxS (.c (.str 200 9938655150514779720929161263213647789093395803754561035662628441001274968862597953692946393464194303251501229616933063375291039650253924995779037586872666250072396106842829501851083234932712366962979930255066872747696324303968523733872590022915936937156789320557469720923390131174387415513794469201054844961267015441141542819553679203788501627738430154234325528792480477051962324423099068299719245009424585859096469223093538032153047611602695245052081125123941502624659711709950000)) r152))),
           .op (.mk (.to q154) .no (.n (.mv r16))),
           .op (.mk (.to q155) .no (.n (.idxS (.c (.str 200 9938655150514779720929161263213647789093395803754561035662628441001274968862597953692946393464194303251501229616933063375291039650253924995779037586872666250072396106842829501851083234932712366962979930255066872747696324303968523733872590022915936937156789320557469720923390131174387415513794469201054844961267015441141542819553679203788501627738430154234325528792480477051962324423099068299719245009424585859096469223093538032153047611602695245052081125123941502624659711709950000)) r154))),
           .op (.mk (.to q156) .no (.n (.iaddr 1 r145 r147))),
           .op (.mk .no .no (.e (.st 1 r156 r153))),
           .op (.mk (.to q157) .no (.n (.iaddr 1 r148 r150))),
           .op (.mk .no .no (.e (.st 1 r157 r155)))])
          (.ops [.mk .ps .no (.n (.bin .sub r4 (.c (.int .i64 (.ofNat 2) 0)))),
           .mk (.to q4) .no (.n (.mv (.s 0)))]))))
       .skip))
     (.seq (.ops [.mk (.to q161) .no (.n (.bin .gtr r4 (.c (.int .i64 (.ofNat 0) 0))))])
      (.cond r161 (.ops [.mk .ps .no (.n (.bin .add (.c (.int .u32 (.ofNat 48) 0)) r12)),
        .mk .ps .no (.n (.cvi .u8 (.s 0))),
        .mk .ps .no (.n (.iaddr 1 r0 (.c (.int .i64 (.ofNat 0) 0)))),
        .mk .no .no (.e (.st 1 (.s 0) (.s 1)))])
       .skip)))))))
 [] .no 0
/- internal/strconv.formatBits -/
def af_internal_strconv_formatBits : AF := .mk 5 (.seq (.ops [.mk (.to q10) .no (.n (.mv (.c .nils))),
  .mk (.to q11) .no (.n (.mv (.c (.str 0 0))))])
 (.seq (.seq (.ops [.mk .ps .no (.n (.bin .lss r2 (.c (.int .i64 (.ofNat 2) 0)))),
    .mk .ps (.on (.s 0) false) (.n (.mv r2)),
    .mk .ps (.on (.s 1) false) (.n (.eq (.one .int) false (.s 0) (.c (.int .i64 (.ofNat 10) 0)))),
    .mk .ps .no (.n (.pick (.s 2) (.c (.bool true)) (.s 0))),
    .mk .ps (.on (.s 0) false) (.n (.mv r2)),
    .mk .ps (.on (.s 1) false) (.n (.bin .gtr (.s 0) (.c (.int .i64 (.ofNat 36) 0)))),
    .mk (.to q28) .no (.n (.pick (.s 2) (.c (.bool true)) (.s 0)))])
   (.cond r28 (.ops [.mk .ps .no (.n (.nilck (.c .undef))),
     .mk .no .no (.n (.nilck (.c .undef)))])
    .skip))
  (.seq (.ops [.mk (.to q12) .no (.a (.alloc 1 [[(.int .u8 (.ofNat 0) 0)], [(.int .u8 (.ofNat 0) 0)], [(.int .u8 (.ofNat 0) 0)], [(.int .u8 (.ofNat 0) 0)], [(.int .u8 (.ofNat 0) 0)], [(.int .u8 (.ofNat 0) 0)], [(.int .u8 (.ofNat 0) 0)], [(.int .u8 (.ofNat 0) 0)], [(.int .u8 (.ofNat 0) 0)], [(.int .u8 (.ofNat 0) 0)], [(.int .u8 (.ofNat 0) 0)], [(.int .u8 (.ofNat 0) 0)], [(.int .u8 (.ofNat 0) 0)], [(.int .u8 (.ofNat 0) 0)], [(.int .u8 (.ofNat 0) 0)], [(.int .u8 (.ofNat 0) 0)], [(.int .u8 (.ofNat 0) 0)], [(.int .u8 (.ofNat 0) 0)], [(.int .u8 (.ofNat 0) 0)], [(.int .u8 (.ofNat 0) 0)], [(.int .u8 (.ofNat 0) 0)], [(.int .u8 (.ofNat 0) 0)], [(.int .u8 (.ofNat 0) 0)], [(.int .u8 (.ofNat 0) 0)], [(.int .u8 (.ofNat 0) 0)], [(.int .u8 (.ofNat 0) 0)], [(.int .u8 (.ofNat 0) 0)], [(.int .u8 (.ofNat 0) 0)], [(.int .u8 (.ofNat 0) 0)], [(.int .u8 (.ofNat 0) 0)], [(.int .u8 (.ofNat 0) 0)], [(.int .u8 (.ofNat 0) 0)], [(.int .u8 (.ofNat 0) 0)], [(.int .u8 (.ofNat 0) 0)], [(.int .u8 (.ofNat 0) 0)], [(.int .u8 (.ofNat 0) 0)], [(.int .u8 (.ofNat 0) 0)], [(.int .u8 (.ofNat 0) 0)], [(.int .u8 (.ofNat 0) 0)], [(.int .u8 (.ofNat 0) 0)], [(.int .u8 (.ofNat 0) 0)], [(.int .u8 (.ofNat 0) 0)], [(.int .u8 (.ofNat 0) 0)], [(.int .u8 (.ofNat 0) 0)], [(.int .u8 (.ofNat 0) 0)], [(.int .u8 (.ofNat 0) 0)], [(.int .u8 (.ofNat 0) 0)], [(.int .u8 (.ofNat 0) 0)], [(.int .u8 (.ofNat 0) 0)], [(.int .u8 (.ofNat 0) 0)], [(.int .u8 (.ofNat 0) 0)], [(.int .u8 (.ofNat 0) 0)], [(.int .u8 (.ofNat 0) 0)], [(.int .u8 (.ofNat 0) 0)], [(.int .u8 (.ofNat 0) 0)], [(.int .u8 (.ofNat 0) 0)], [(.int .u8 (.ofNat 0) 0)], [(.int .u8 (.ofNat 0) 0)], [(.int .u8 (.ofNat 0) 0)], [(.int .u8 (.ofNat 0) 0)], [(.int .u8 (.ofNat 0) 0)], [(.int .u8 (.ofNat 0) 0)], [(.int .u8 (.ofNat 0) 0)], [(.int .u8 (.ofNat 0) 0)], [(.int .u8 (.ofNat 0) 0)]]))])
   (.seq (.ops [.mk (.to q13) .no (.n (.mv (.c (.int .i64 (.ofNat 65) 0))))])
    (.seq (.seq (.ops [.mk (.to q30) .no (.n (.mv r3))])
      (.cond r30 (.ops [.mk .ps .no (.n (.neg r1)),
        .mk (.to q1) .no (.n (.mv (.s 0)))])
       .skip))
     (.seq (.seq (.ops [.mk (.to q34) .no (.e (.call n_internal_strconv_isPowerOfTwo [r2]))])
       (.cond r34 (.seq (.ops [.mk .ps .no (.n (.cvi .u64 r2)),
          .mk .ps .no (.e (.call n_math_bits_TrailingZeros [(.s 0)])),
          .mk .ps .no (.n (.cvi .u64 (.s 0))),
          .mk (.to q14) .no (.n (.mv (.s 0)))])
         (.seq (.ops [.mk .ps .no (.n (.cvi .u64 r2)),
           .mk (.to q15) .no (.n (.mv (.s 0)))])
          (.seq (.ops [.mk .ps .no (.n (.cvi .u64 r2)),
            .mk .ps .no (.n (.bin .sub (.s 0) (.c (.int .u64 (.ofNat 1) 0)))),
            .mk (.to q16) .no (.n (.mv (.s 0)))])
           (.seq (.block 0 (.loop (.seq (.seq (.ops [.mk (.to q46) .no (.n (.bin .geq r1 r15))])
                (.cond r46 .skip
                 (.exit 0)))
               (.block 1 (.seq (.ops [.mk .ps .no (.n (.bin .sub r13 (.c (.int .i64 (.ofNat 1) 0)))),
                  .mk (.to q13) .no (.n (.mv (.s 0)))])
                 (.seq (.ops [.mk .ps .no (.n (.bin .and r1 r16)),
                   .mk .ps .no (.n (.idxS (.c (.str 36 237927390410950444456928663707796224754864904193074819559483181009558347043374296609072)) (.s 0))),
                   .mk .ps .no (.n (.iaddrA 65 1 r12 r13)),
                   .mk .no .no (.e (.st 1 (.s 0) (.s 1)))])
                  (.ops [.mk .ps .no (.n (.bin .shr r1 r14)),
                   .mk (.to q1) .no (.n (.mv (.s 0)))])))))))
            (.seq (.ops [.mk .ps .no (.n (.bin .sub r13 (.c (.int .i64 (.ofNat 1) 0)))),
              .mk (.to q13) .no (.n (.mv (.s 0)))])
             (.ops [.mk .ps .no (.n (.idxS (.c (.str 36 237927390410950444456928663707796224754864904193074819559483181009558347043374296609072)) r1)),
              .mk .ps .no (.n (.iaddrA 65 1 r12 r13)),
              .mk .no .no (.e (.st 1 (.s 0) (.s 1)))]))))))
        (.seq (.ops [.mk .ps .no (.n (.cvi .u64 r2)),
          .mk (.to q17) .no (.n (.mv (.s 0)))])
         (.seq (.block 2 (.loop (.seq (.seq (.ops [.mk (.to q68) .no (.n (.bin .geq r1 r17))])
              (.cond r68 .skip
               (.exit 2)))
             (.block 3 (.seq (.ops [.mk .ps .no (.n (.bin .sub r13 (.c (.int .i64 (.ofNat 1) 0)))),
                .mk (.to q13) .no (.n (.mv (.s 0)))])
               (.seq (.ops [.mk .ps .no (.n (.bin .quo r1 r17)),
                 .mk (.to q18) .no (.n (.mv (.s 0)))])
                (.seq (.ops [.mk .ps .no (.n (.bin .mul r18 r17)),
                  .mk .ps .no (.n (.bin .sub r1 (.s 0))),
                  .mk .ps .no (.n (.idxS (.c (.str 36 237927390410950444456928663707796224754864904193074819559483181009558347043374296609072)) (.s 0))),
                  .mk .ps .no (.n (.iaddrA 65 1 r12 r13)),
                  .mk .no .no (.e (.st 1 (.s 0) (.s 1)))])
                 (.ops [.mk (.to q1) .no (.n (.mv r18))]))))))))
          (.seq (.ops [.mk .ps .no (.n (.bin .sub r13 (.c (.int .i64 (.ofNat 1) 0)))),
            .mk (.to q13) .no (.n (.mv (.s 0)))])
           (.ops [.mk .ps .no (.n (.idxS (.c (.str 36 237927390410950444456928663707796224754864904193074819559483181009558347043374296609072)) r1)),
            .mk .ps .no (.n (.iaddrA 65 1 r12 r13)),
            .mk .no .no (.e (.st 1 (.s 0) (.s 1)))]))))))
      (.seq (.seq (.ops [.mk (.to q89) .no (.n (.mv r3))])
        (.cond r89 (.seq (.ops [.mk .ps .no (.n (.bin .sub r13 (.c (.int .i64 (.ofNat 1) 0)))),
           .mk (.to q13) .no (.n (.mv (.s 0)))])
          (.ops [.mk .ps .no (.n (.iaddrA 65 1 r12 r13)),
           .mk .no .no (.e (.st 1 (.s 0) (.c (.int .u8 (.ofNat 45) 0))))]))
         .skip))
       (.seq (.seq (.ops [.mk (.to q94) .no (.n (.mv r4))])
         (.cond r94 (.seq (.ops [.mk .ps .no (.n (.slcA 65 1 r12 (some r13) none)),
            .mk .ps .no (.e (.app 1 1 r0 (.s 0))),
            .mk (.to q10) .no (.n (.mv (.s 0)))])
           .ret)
          .skip))
        (.seq (.ops [.mk .ps .no (.n (.slcA 65 1 r12 (some r13) none)),
          .mk .ps .no (.n (.cvS (.s 0))),
          .mk (.to q11) .no (.n (.mv (.s 0)))])
         .ret)))))))))
 [.tmp q10, .tmp q11] .no 0
/- (*kiln/lex.lexer).step -/
def af_lex_lexer_step : AF := .mk 2 (.seq (.ops [.mk (.to q4) .no (.n (.mv r1)),
  .mk (.to q5) .no (.n (.mv (.c (.int .i64 (.ofNat 0) 0))))])
 (.block 0 (.loop (.seq (.ops [.mk (.to q6) .no (.n (.bin .lss r5 r4))])
    (.seq (.cond r6 .skip
      (.exit 0))
     (.seq (.block 1 (.seq (.ops [.mk .ps .no (.n (.nilck r0)),
         .mk .ps .no (.n (.faddr 2 (.s 0))),
         .mk .ps .no (.n (.faddr 1 (.s 0))),
         .mk .ps .no (.n (.ld1 (.s 0))),
         .mk .ps .no (.n (.bin .add (.s 0) (.c (.int .i64 (.ofNat 1) 0)))),
         .mk .ps .no (.n (.nilck r0)),
         .mk .ps .no (.n (.faddr 2 (.s 0))),
         .mk .ps .no (.n (.faddr 1 (.s 0))),
         .mk .no .no (.e (.st 1 (.s 0) (.s 3)))])
        (.seq (.seq (.reg [.op (.mk (.to q16) .no (.n (.mv r0))),
           .op (.mk (.to q17) .no (.n (.nilck r16))),
           .op (.mk (.to q18) .no (.n (.faddr 0 r17))),
           .op (.mk (.to q19) .no (.n (.ld1 r18))),
           .op (.mk (.to q20) .no (.n (.mv r0))),
           .op (.mk (.to q21) .no (.n (.nilck r20))),
           .op (.mk (.to q22) .no (.n (.faddr 1 r21))),
           .op (.mk (.to q23) .no (.n (.ld1 r22))),
           .op (.mk (.to q24) .no (.n (.idxS r19 r23))),
           .op (.mk (.to q25) .no (.n (.eq (.one .int) false r24 (.c (.int .u8 (.ofNat 10) 0)))))])
          (.cond r25 (.ops [.mk .ps .no (.n (.nilck r0)),
            .mk .ps .no (.n (.faddr 2 (.s 0))),
            .mk .ps .no (.n (.faddr 0 (.s 0))),
            .mk .ps .no (.n (.ld1 (.s 0))),
            .mk .ps .no (.n (.bin .add (.s 0) (.c (.int .i64 (.ofNat 1) 0)))),
            .mk .ps .no (.n (.build [(.int .i64 (.ofNat 0) 0), (.int .i64 (.ofNat 0) 0)] [(0, 1, (.s 0)), (1, 1, (.c (.int .i64 (.ofNat 1) 0)))])),
            .mk .ps .no (.n (.nilck r0)),
            .mk .ps .no (.n (.faddr 2 (.s 0))),
            .mk .no .no (.e (.st 2 (.s 0) (.s 2)))])
           .skip))
         (.ops [.mk .ps .no (.n (.nilck r0)),
          .mk .ps .no (.n (.faddr 1 (.s 0))),
          .mk .ps .no (.n (.ld1 (.s 0))),
          .mk .ps .no (.n (.bin .add (.s 0) (.c (.int .i64 (.ofNat 1) 0)))),
          .mk .ps .no (.n (.nilck r0)),
          .mk .ps .no (.n (.faddr 1 (.s 0))),
          .mk .no .no (.e (.st 1 (.s 0) (.s 2)))]))))
      (.ops [.mk .ps .no (.n (.bin .add r5 (.c (.int .i64 (.ofNat 1) 0)))),
       .mk (.to q5) .no (.n (.mv (.s 0)))])))))))
 [] .no 0
/- strings.HasPrefix -/
def af_strings_HasPrefix : AF := .mk 2 (.seq (.ops [.mk (.to q4) .no (.n (.mv (.c (.bool false))))])
 (.seq (.ops [.mk .ps .no (.e (.call n_internal_stringslite_HasPrefix [r0, r1])),
   .mk (.to q4) .no (.n (.mv (.s 0)))])
  .ret))
 [.tmp q4] .no 0
/- strings.IndexByte -/
def af_strings_IndexByte : AF := .mk 2 (.seq (.ops [.mk (.to q4) .no (.n (.mv (.c (.int .i64 (.ofNat 0) 0))))])
 (.seq (.ops [.mk .ps .no (.e (.call n_internal_stringslite_IndexByte [r0, r1])),
   .mk (.to q4) .no (.n (.mv (.s 0)))])
  .ret))
 [.tmp q4] .no 0
/- kiln/lex.great -/
def af_lex_great : AF := .mk 1 (.seq (.ops [.mk (.to q2) .no (.n (.mv (.c (.bool false))))])
 (.seq (.ops [.mk .ps .no (.n (.bin .geq r0 (.c (.int .u8 (.ofNat 65) 0)))),
   .mk .ps (.on (.s 0) true) (.n (.mv r0)),
   .mk .ps (.on (.s 1) true) (.n (.bin .leq (.s 0) (.c (.int .u8 (.ofNat 90) 0)))),
   .mk .ps .no (.n (.pick (.s 2) (.s 0) (.c (.bool false)))),
   .mk (.to q2) .no (.n (.mv (.s 0)))])
  .ret))
 [.tmp q2] .no 0
/- (*kiln/lex.lexer).run -/
def af_lex_lexer_run : AF := .mk 2 (.seq (.ops [.mk (.to q4) .no (.n (.mv (.c (.str 0 0))))])
 (.seq (.ops [.mk (.to q5) .no (.n (.mv (.c (.int .i64 (.ofNat 0) 0))))])
  (.seq (.block 0 (.loop (.seq (.seq (.reg [.op (.mk (.to q6) .no (.n (.mv r0))),
        .op (.mk (.to q7) .no (.n (.nilck r6))),
        .op (.mk (.to q8) .no (.n (.faddr 1 r7))),
        .op (.mk (.to q9) .no (.n (.ld1 r8))),
        .op (.mk (.to q10) .no (.n (.mv r5))),
        .op (.mk (.to q11) .no (.n (.bin .add r9 r10))),
        .op (.mk (.to q12) .no (.n (.mv r0))),
        .op (.mk (.to q13) .no (.n (.nilck r12))),
        .op (.mk (.to q14) .no (.n (.faddr 0 r13))),
        .op (.mk (.to q15) .no (.n (.ld1 r14))),
        .op (.mk (.to q16) .no (.n (.lenS r15))),
        .op (.mk (.to q17) .no (.n (.bin .lss r11 r16))),
        .op (.mk (.to q18) .no (.n (.mv r17))),
        .op (.mk (.to q19) (.on r18 true) (.n (.mv r1))),
        .op (.mk (.to q20) (.on r18 true) (.n (.mv r0))),
        .op (.mk (.to q21) (.on r18 true) (.n (.nilck r20))),
        .op (.mk (.to q22) (.on r18 true) (.n (.faddr 0 r21))),
        .op (.mk (.to q23) (.on r18 true) (.n (.ld1 r22))),
        .op (.mk (.to q24) (.on r18 true) (.n (.mv r0))),
        .op (.mk (.to q25) (.on r18 true) (.n (.nilck r24))),
        .op (.mk (.to q26) (.on r18 true) (.n (.faddr 1 r25))),
        .op (.mk (.to q27) (.on r18 true) (.n (.ld1 r26))),
        .op (.mk (.to q28) (.on r18 true) (.n (.mv r5))),
        .op (.mk (.to q29) (.on r18 true) (.n (.bin .add r27 r28))),
        .op (.mk (.to q30) (.on r18 true) (.n (.idxS r23 r29))),
        .op (.mk (.to q31) (.on r18 true) (.e (.callv r19 [r30]))),
        .op (.mk (.to q32) .no (.n (.pick r18 r31 (.c (.bool false)))))])
       (.cond r32 .skip
        (.exit 0)))
      (.block 1 (.ops [.mk .ps .no (.n (.bin .add r5 (.c (.int .i64 (.ofNat 1) 0)))),
        .mk (.to q5) .no (.n (.mv (.s 0)))])))))
   (.seq (.reg [.op (.mk (.to q35) .no (.n (.mv r0))),
     .op (.mk (.to q36) .no (.n (.nilck r35))),
     .op (.mk (.to q37) .no (.n (.faddr 0 r36))),
     .op (.mk (.to q38) .no (.n (.ld1 r37))),
     .op (.mk (.to q39) .no (.n (.mv r0))),
     .op (.mk (.to q40) .no (.n (.nilck r39))),
     .op (.mk (.to q41) .no (.n (.faddr 1 r40))),
     .op (.mk (.to q42) .no (.n (.ld1 r41))),
     .op (.mk (.to q43) .no (.n (.mv r0))),
     .op (.mk (.to q44) .no (.n (.nilck r43))),
     .op (.mk (.to q45) .no (.n (.faddr 1 r44))),
     .op (.mk (.to q46) .no (.n (.ld1 r45))),
     .op (.mk (.to q47) .no (.n (.mv r5))),
     .op (.mk (.to q48) .no (.n (.bin .add r46 r47))),
     .op (.mk (.to q49) .no (.n (.slcS r38 (some r42) (some r48)))),
     .op (.mk (.to q4) .no (.n (.mv r49)))])
    .ret))))
 [.tmp q4] .no 0
/- kiln/lex.inner -/
def af_lex_inner : AF := .mk 1 (.seq (.ops [.mk (.to q2) .no (.n (.mv (.c (.bool false))))])
 (.seq (.ops [.mk .ps .no (.e (.call n_lex_great [r0])),
   .mk .ps (.on (.s 0) false) (.n (.mv r0)),
   .mk .ps (.on (.s 1) false) (.e (.call n_lex_small [(.s 0)])),
   .mk .ps .no (.n (.pick (.s 2) (.c (.bool true)) (.s 0))),
   .mk .ps (.on (.s 0) false) (.n (.mv r0)),
   .mk .ps (.on (.s 1) false) (.e (.call n_lex_digit [(.s 0)])),
   .mk .ps .no (.n (.pick (.s 2) (.c (.bool true)) (.s 0))),
   .mk .ps (.on (.s 0) false) (.n (.mv r0)),
   .mk .ps (.on (.s 1) false) (.n (.eq (.one .int) false (.s 0) (.c (.int .u8 (.ofNat 95) 0)))),
   .mk .ps .no (.n (.pick (.s 2) (.c (.bool true)) (.s 0))),
   .mk (.to q2) .no (.n (.mv (.s 0)))])
  .ret))
 [.tmp q2] .no 0
/- kiln/lex.small -/
def af_lex_small : AF := .mk 1 (.seq (.ops [.mk (.to q2) .no (.n (.mv (.c (.bool false))))])
 (.seq (.ops [.mk .ps .no (.n (.bin .geq r0 (.c (.int .u8 (.ofNat 97) 0)))),
   .mk .ps (.on (.s 0) true) (.n (.mv r0)),
   .mk .ps (.on (.s 1) true) (.n (.bin .leq (.s 0) (.c (.int .u8 (.ofNat 122) 0)))),
   .mk .ps .no (.n (.pick (.s 2) (.s 0) (.c (.bool false)))),
   .mk (.to q2) .no (.n (.mv (.s 0)))])
  .ret))
 [.tmp q2] .no 0
/- kiln/lex.words -/
def af_lex_words : AF := .mk 1 (.seq (.ops [.mk (.to q2) .no (.n (.mv (.c (.bool false))))])
 (.seq (.seq (.ops [.mk (.to q3) .no (.n (.mv r0))])
   (.block 0 (.seq (.seq (.ops [.mk .ps .no (.n (.eq (.one .str) false r3 (.c (.str 2 29537)))),
       .mk (.to q4) .no (.n (.mv (.s 0)))])
      (.cond r4 .skip
       (.seq (.ops [.mk .ps .no (.n (.eq (.one .str) false r3 (.c (.str 4 1819242338)))),
         .mk (.to q4) .no (.n (.mv (.s 0)))])
        (.cond r4 .skip
         (.seq (.ops [.mk .ps .no (.n (.eq (.one .str) false r3 (.c (.str 5 495857003619)))),
           .mk (.to q4) .no (.n (.mv (.s 0)))])
          (.cond r4 .skip
           (.seq (.ops [.mk .ps .no (.n (.eq (.one .str) false r3 (.c (.str 4 1702063205)))),
             .mk (.to q4) .no (.n (.mv (.s 0)))])
            (.cond r4 .skip
             (.seq (.ops [.mk .ps .no (.n (.eq (.one .str) false r3 (.c (.str 7 32480047633037413)))),
               .mk (.to q4) .no (.n (.mv (.s 0)))])
              (.cond r4 .skip
               (.seq (.ops [.mk .ps .no (.n (.eq (.one .str) false r3 (.c (.str 5 435728179558)))),
                 .mk (.to q4) .no (.n (.mv (.s 0)))])
                (.cond r4 .skip
                 (.seq (.ops [.mk .ps .no (.n (.eq (.one .str) false r3 (.c (.str 5 431315315046)))),
                   .mk (.to q4) .no (.n (.mv (.s 0)))])
                  (.cond r4 .skip
                   (.seq (.ops [.mk .ps .no (.n (.eq (.one .str) false r3 (.c (.str 2 26217)))),
                     .mk (.to q4) .no (.n (.mv (.s 0)))])
                    (.cond r4 .skip
                     (.seq (.ops [.mk .ps .no (.n (.eq (.one .str) false r3 (.c (.str 3 7630441)))),
                       .mk (.to q4) .no (.n (.mv (.s 0)))])
                      (.cond r4 .skip
                       (.seq (.ops [.mk .ps .no (.n (.eq (.one .str) false r3 (.c (.str 2 29545)))),
                         .mk (.to q4) .no (.n (.mv (.s 0)))])
                        (.cond r4 .skip
                         (.seq (.ops [.mk .ps .no (.n (.eq (.one .str) false r3 (.c (.str 6 114849160783212)))),
                           .mk (.to q4) .no (.n (.mv (.s 0)))])
                          (.cond r4 .skip
                           (.seq (.ops [.mk .ps .no (.n (.eq (.one .str) false r3 (.c (.str 3 7628140)))),
                             .mk (.to q4) .no (.n (.mv (.s 0)))])
                            (.cond r4 .skip
                             (.seq (.ops [.mk .ps .no (.n (.eq (.one .str) false r3 (.c (.str 6 110429656606061)))),
                               .mk (.to q4) .no (.n (.mv (.s 0)))])
                              (.cond r4 .skip
                               (.seq (.ops [.mk .ps .no (.n (.eq (.one .str) false r3 (.c (.str 3 7824750)))),
                                 .mk (.to q4) .no (.n (.mv (.s 0)))])
                                (.cond r4 .skip
                                 (.seq (.ops [.mk .ps .no (.n (.eq (.one .str) false r3 (.c (.str 4 1819047278)))),
                                   .mk (.to q4) .no (.n (.mv (.s 0)))])
                                  (.cond r4 .skip
                                   (.seq (.ops [.mk .ps .no (.n (.eq (.one .str) false r3 (.c (.str 5 500068610672)))),
                                     .mk (.to q4) .no (.n (.mv (.s 0)))])
                                    (.cond r4 .skip
                                     (.seq (.ops [.mk .ps .no (.n (.eq (.one .str) false r3 (.c (.str 6 121437875889522)))),
                                       .mk (.to q4) .no (.n (.mv (.s 0)))])
                                      (.cond r4 .skip
                                       (.seq (.ops [.mk .ps .no (.n (.eq (.one .str) false r3 (.c (.str 6 109304575259763)))),
                                         .mk (.to q4) .no (.n (.mv (.s 0)))])
                                        (.cond r4 .skip
                                         (.seq (.ops [.mk .ps .no (.n (.eq (.one .str) false r3 (.c (.str 4 1936287860)))),
                                           .mk (.to q4) .no (.n (.mv (.s 0)))])
                                          (.cond r4 .skip
                                           (.seq (.ops [.mk .ps .no (.n (.eq (.one .str) false r3 (.c (.str 4 1702195828)))),
                                             .mk (.to q4) .no (.n (.mv (.s 0)))])
                                            (.cond r4 .skip
                                             (.ops [.mk .ps .no (.n (.eq (.one .str) false r3 (.c (.str 5 435610544247)))),
                                              .mk (.to q4) .no (.n (.mv (.s 0)))])))))))))))))))))))))))))))))))))))))))))
     (.cond r4 (.seq (.ops [.mk (.to q2) .no (.n (.mv (.c (.bool true))))])
       .ret)
      .skip))))
  (.seq (.ops [.mk (.to q2) .no (.n (.mv (.c (.bool false))))])
   .ret)))
 [.tmp q2] .no 0
/- kiln/lex.digit -/
def af_lex_digit : AF := .mk 1 (.seq (.ops [.mk (.to q2) .no (.n (.mv (.c (.bool false))))])
 (.seq (.ops [.mk .ps .no (.n (.bin .geq r0 (.c (.int .u8 (.ofNat 48) 0)))),
   .mk .ps (.on (.s 0) true) (.n (.mv r0)),
   .mk .ps (.on (.s 1) true) (.n (.bin .leq (.s 0) (.c (.int .u8 (.ofNat 57) 0)))),
   .mk .ps .no (.n (.pick (.s 2) (.s 0) (.c (.bool false)))),
   .mk (.to q2) .no (.n (.mv (.s 0)))])
  .ret))
 [.tmp q2] .no 0
/- kiln/lex.number -/
def af_lex_number : AF := .mk 1 (.seq (.ops [.mk (.to q2) .no (.n (.mv (.c (.int .i64 (.ofNat 0) 0)))),
  .mk (.to q3) .no (.n (.mv (.c (.bool false))))])
 (.seq (.ops [.mk (.to q4) .no (.n (.mv (.c (.int .i64 (.ofNat 0) 0))))])
  (.seq (.seq (.ops [.mk (.to q8) .no (.e (.cvB r0)),
     .mk (.to q9) .no (.n (.lenL r8)),
     .mk (.to q10) .no (.n (.mv (.c (.int .i64 (.ofNat 0) 0))))])
    (.block 0 (.loop (.seq (.ops [.mk (.to q11) .no (.n (.bin .lss r10 r9))])
       (.seq (.cond r11 .skip
         (.exit 0))
        (.seq (.block 1 (.seq (.ops [.mk .ps .no (.n (.iaddr 1 r8 r10)),
            .mk .ps .no (.n (.ld1 (.s 0))),
            .mk (.to q6) .no (.n (.mv (.s 0)))])
           (.seq (.ops [.mk .ps .no (.n (.bin .mul r4 (.c (.int .i64 (.ofNat 10) 0)))),
             .mk .ps .no (.n (.bin .sub r6 (.c (.int .u8 (.ofNat 48) 0)))),
             .mk .ps .no (.n (.cvi .i64 (.s 0))),
             .mk .ps .no (.n (.bin .add (.s 2) (.s 0))),
             .mk (.to q4) .no (.n (.mv (.s 0)))])
            (.seq (.ops [.mk (.to q21) .no (.n (.bin .gtr r4 (.c (.int .i64 (.ofNat 288230376151711744) 0))))])
             (.cond r21 (.seq (.ops [.mk (.to q2) .no (.n (.mv (.c (.int .i64 (.ofNat 0) 0)))),
                .mk (.to q3) .no (.n (.mv (.c (.bool false))))])
               .ret)
              .skip)))))
         (.ops [.mk .ps .no (.n (.bin .add r10 (.c (.int .i64 (.ofNat 1) 0)))),
          .mk (.to q10) .no (.n (.mv (.s 0)))])))))))
   (.seq (.ops [.mk (.to q2) .no (.n (.mv r4)),
     .mk (.to q3) .no (.n (.mv (.c (.bool true))))])
    .ret))))
 [.tmp q2, .tmp q3] .no 0
/- (*kiln/parse.parser).next -/
def af_parse_parser_next : AF := .mk 1 (.seq (.ops [.mk (.to q2) .no (.a (.alloc 5 [[(.int .i64 (.ofNat 0) 0), (.str 0 0), (.int .i64 (.ofNat 0) 0), (.int .i64 (.ofNat 0) 0), (.int .i64 (.ofNat 0) 0)]]))])
 (.seq (.ops [.mk .ps .no (.n (.nilck r0)),
   .mk .ps .no (.n (.faddr 0 (.s 0))),
   .mk .ps .no (.n (.ld1 (.s 0))),
   .mk .ps .no (.n (.iaddr 5 (.s 0) (.c (.int .i64 (.ofNat 0) 0)))),
   .mk .ps .no (.n (.ldn 5 (.s 0))),
   .mk (.to q3) .no (.a (.alloc 5 [[(.int .i64 (.ofNat 0) 0), (.str 0 0), (.int .i64 (.ofNat 0) 0), (.int .i64 (.ofNat 0) 0), (.int .i64 (.ofNat 0) 0)]])),
   .mk .no .no (.e (.st 5 r3 (.s 0)))])
  (.seq (.seq (.ops [.mk .ps .no (.n (.faddr 0 r3)),
     .mk .ps .no (.n (.ld1 (.s 0))),
     .mk (.to q12) .no (.n (.eq (.one .int) true (.s 0) (.c (.int .i64 (.ofNat 0) 0))))])
    (.cond r12 (.ops [.mk .ps .no (.n (.nilck r0)),
      .mk .ps .no (.n (.faddr 0 (.s 0))),
      .mk .ps .no (.n (.ld1 (.s 0))),
      .mk .ps .no (.n (.slc 5 (.s 0) (some (.c (.int .i64 (.ofNat 1) 0))) none none)),
      .mk .ps .no (.n (.nilck r0)),
      .mk .ps .no (.n (.faddr 0 (.s 0))),
      .mk .no .no (.e (.st 1 (.s 0) (.s 2)))])
     .skip))
   (.seq (.ops [.mk .ps .no (.n (.ldn 5 r3)),
     .mk .no .no (.e (.st 5 r2 (.s 0)))])
    .ret))))
 [.celln q2 5] .no 0
/- (*kiln/parse.parser).base -/
def af_parse_parser_base : AF := .mk 1 (.seq (.ops [.mk (.to q2) .no (.a (.alloc 2 [[(.str 0 0), (.bool false)]]))])
 (.seq (.block 0 (.seq (.ops [.mk .ps .no (.e (.call n_parse_parser_take [r0, (.c (.str 3 7630441))])),
     .mk (.to q3) .no (.n (.mv (.s 0)))])
    (.cond r3 (.seq (.ops [.mk .ps .no (.e (.call n_ast_Int [])),
       .mk .no .no (.e (.st 2 r2 (.s 0)))])
      .ret)
     (.seq (.ops [.mk .ps .no (.e (.call n_parse_parser_take [r0, (.c (.str 4 1819242338))])),
       .mk (.to q7) .no (.n (.mv (.s 0)))])
      (.cond r7 (.seq (.ops [.mk .ps .no (.e (.call n_ast_Bool [])),
         .mk .no .no (.e (.st 2 r2 (.s 0)))])
        .ret)
       .skip)))))
  (.seq (.ops [.mk .ps .no (.e (.call n_parse_parser_name [r0, (.c (.int .i64 (.ofNat 2) 0))])),
    .mk .ps .no (.e (.call n_ast_Of [(.s 0)])),
    .mk .no .no (.e (.st 2 r2 (.s 0)))])
   .ret)))
 [.celln q2 2] .no 0
/- (*kiln/parse.parser).block -/
def af_parse_parser_block : AF := .mk 1 (.seq (.ops [.mk (.to q2) .no (.n (.mv (.c .nils)))])
 (.seq (.ops [.mk .ps .no (.e (.call n_parse_parser_down [r0])),
   .mk (.to q22) .no (.e (.defer q22 (.s 0) []))])
  (.seq (.ops [.mk .ps .no (.a (.bslice 1 1 [(.str 0 0)] [(0, (.c (.str 1 123)))])),
    .mk .ps .no (.e (.call n_parse_parser_want [r0, (.s 0)]))])
   (.seq (.ops [.mk (.to q3) .no (.n (.mv (.c .nils)))])
    (.seq (.block 0 (.loop (.seq (.seq (.ops [.mk .ps .no (.e (.call n_parse_parser_ok [r0])),
          .mk .ps (.on (.s 0) true) (.n (.mv r0)),
          .mk .ps (.on (.s 1) true) (.e (.call n_parse_parser_take [(.s 0), (.c (.str 1 125))])),
          .mk .ps (.on (.s 2) true) (.n (.not (.s 0))),
          .mk (.to q15) .no (.n (.pick (.s 3) (.s 0) (.c (.bool false))))])
         (.cond r15 .skip
          (.exit 0)))
        (.block 1 (.ops [.mk .ps .no (.e (.call n_parse_parser_stmt [r0])),
          .mk .ps .no (.a (.bslice 9 1 [(.int .i64 (.ofNat 0) 0), (.int .i64 (.ofNat 0) 0), (.int .i64 (.ofNat 0) 0), (.str 0 0), (.str 0 0), (.bool false), .nils, .nils, .nils] [(0, (.s 0))])),
          .mk .ps .no (.e (.app 9 136 r3 (.s 0))),
          .mk (.to q3) .no (.n (.mv (.s 0)))])))))
     (.seq (.ops [.mk (.to q2) .no (.n (.mv r3))])
      .ret))))))
 [.tmp q2] (.to q22) n_parse_parser_down_1
/- internal/strconv.log10Pow2 -/
def af_internal_strconv_log10Pow2 : AF := .mk 1 (.seq (.ops [.mk (.to q2) .no (.n (.mv (.c (.int .i64 (.ofNat 0) 0))))])
 (.seq (.ops [.mk .ps .no (.n (.bin .mul r0 (.c (.int .i64 (.ofNat 78913) 0)))),
   .mk .ps .no (.n (.bin .shr (.s 0) (.c (.int .u64 (.ofNat 18) 0)))),
   .mk (.to q2) .no (.n (.mv (.s 0)))])
  .ret))
 [.tmp q2] .no 0
/- math/bits.Len64 -/
def af_math_bits_Len64 : AF := .mk 1 (.seq (.ops [.mk (.to q2) .no (.n (.mv (.c (.int .i64 (.ofNat 0) 0))))])
 (.seq (.seq (.ops [.mk (.to q4) .no (.n (.bin .geq r0 (.c (.int .u64 (.ofNat 4294967296) 0))))])
   (.cond r4 (.seq (.ops [.mk .ps .no (.n (.bin .shr r0 (.c (.int .u64 (.ofNat 32) 0)))),
      .mk (.to q0) .no (.n (.mv (.s 0)))])
     (.ops [.mk (.to q2) .no (.n (.mv (.c (.int .i64 (.ofNat 32) 0))))]))
    .skip))
  (.seq (.seq (.ops [.mk (.to q8) .no (.n (.bin .geq r0 (.c (.int .u64 (.ofNat 65536) 0))))])
    (.cond r8 (.seq (.ops [.mk .ps .no (.n (.bin .shr r0 (.c (.int .u64 (.ofNat 16) 0)))),
       .mk (.to q0) .no (.n (.mv (.s 0)))])
      (.ops [.mk .ps .no (.n (.bin .add r2 (.c (.int .i64 (.ofNat 16) 0)))),
       .mk (.to q2) .no (.n (.mv (.s 0)))]))
     .skip))
   (.seq (.seq (.ops [.mk (.to q14) .no (.n (.bin .geq r0 (.c (.int .u64 (.ofNat 256) 0))))])
     (.cond r14 (.seq (.ops [.mk .ps .no (.n (.bin .shr r0 (.c (.int .u64 (.ofNat 8) 0)))),
        .mk (.to q0) .no (.n (.mv (.s 0)))])
       (.ops [.mk .ps .no (.n (.bin .add r2 (.c (.int .i64 (.ofNat 8) 0)))),
        .mk (.to q2) .no (.n (.mv (.s 0)))]))
      .skip))
    (.seq (.ops [.mk .ps .no (.n (.cvi .u8 r0)),
      .mk .ps .no (.n (.idxS (.c (.str 256 1013866857139168856493015739252390649739422828853819106890363778118420553376247557433637691341895324351018602695588957474325319502760499485336098898398377509666851054660423406800006203933793007272033180812049178612605246075062580585469430410618860250057463399279570354286669047577758927328864388992123306212451509403152394148136105363817402562688186708175358218852349079190158732807302672745370040257219644697201681238697346923541678507645485296520536209706771857694240900605172937619415410180424934769249448772944216470541052485265558808433676546390051204254346932932316488017972311616136051587427851453983453479168)) (.s 0))),
      .mk .ps .no (.n (.cvi .i64 (.s 0))),
      .mk .ps .no (.n (.bin .add r2 (.s 0))),
      .mk (.to q2) .no (.n (.mv (.s 0)))])
     .ret)))))
 [.tmp q2] .no 0
/- internal/strconv.bool2[int] -/
def af_internal_strconv_bool2_int : AF := .mk 1 (.seq (.ops [.mk (.to q2) .no (.n (.mv (.c (.int .i64 (.ofNat 0) 0))))])
 (.seq (.seq (.ops [.mk (.to q3) .no (.n (.mv r0))])
   (.cond r3 (.seq (.ops [.mk (.to q2) .no (.n (.mv (.c (.int .i64 (.ofNat 1) 0))))])
     .ret)
    .skip))
  (.seq (.ops [.mk (.to q2) .no (.n (.mv (.c (.int .i64 (.ofNat 0) 0))))])
   .ret)))
 [.tmp q2] .no 0
/- internal/strconv.isPowerOfTwo -/
def af_internal_strconv_isPowerOfTwo : AF := .mk 1 (.seq (.ops [.mk (.to q2) .no (.n (.mv (.c (.bool false))))])
 (.seq (.ops [.mk .ps .no (.n (.bin .sub r0 (.c (.int .i64 (.ofNat 1) 0)))),
   .mk .ps .no (.n (.bin .and r0 (.s 0))),
   .mk .ps .no (.n (.eq (.one .int) false (.s 0) (.c (.int .i64 (.ofNat 0) 0)))),
   .mk (.to q2) .no (.n (.mv (.s 0)))])
  .ret))
 [.tmp q2] .no 0
/- math/bits.TrailingZeros -/
def af_math_bits_TrailingZeros : AF := .mk 1 (.seq (.ops [.mk (.to q2) .no (.n (.mv (.c (.int .i64 (.ofNat 0) 0))))])
 (.seq (.cond (.c (.bool false)) (.seq (.ops [.mk .ps .no (.n (.cvi .u32 r0)),
     .mk .ps .no (.e (.call n_math_bits_TrailingZeros32 [(.s 0)])),
     .mk (.to q2) .no (.n (.mv (.s 0)))])
    .ret)
   .skip)
  (.seq (.ops [.mk .ps .no (.e (.call n_math_bits_TrailingZeros64 [r0])),
    .mk (.to q2) .no (.n (.mv (.s 0)))])
   .ret)))
 [.tmp q2] .no 0
/- internal/stringslite.HasPrefix -/
def af_internal_stringslite_HasPrefix : AF := .mk 2 (.seq (.ops [.mk (.to q4) .no (.n (.mv (.c (.bool false))))])
 (.seq (.ops [.mk .ps .no (.n (.lenS r0)),
   .mk .ps .no (.n (.lenS r1)),
   .mk .ps .no (.n (.bin .geq (.s 1) (.s 0))),
   .mk .ps (.on (.s 0) true) (.n (.mv r0)),
   .mk .ps (.on (.s 1) true) (.n (.mv r1)),
   .mk .ps (.on (.s 2) true) (.n (.lenS (.s 0))),
   .mk .ps (.on (.s 3) true) (.n (.slcS (.s 2) none (some (.s 0)))),
   .mk .ps (.on (.s 4) true) (.n (.mv r1)),
   .mk .ps (.on (.s 5) true) (.n (.eq (.one .str) false (.s 1) (.s 0))),
   .mk .ps .no (.n (.pick (.s 6) (.s 0) (.c (.bool false)))),
   .mk (.to q4) .no (.n (.mv (.s 0)))])
  .ret))
 [.tmp q4] .no 0
/- internal/stringslite.IndexByte -/
def af_internal_stringslite_IndexByte : AF := .mk 2 (.seq (.ops [.mk (.to q4) .no (.n (.mv (.c (.int .i64 (.ofNat 0) 0))))])
 (.seq (.ops [.mk .ps .no (.n (.idxByte r0 r1)),
   .mk (.to q4) .no (.n (.mv (.s 0)))])
  .ret))
 [.tmp q4] .no 0
/- kiln/ast.Int -/
def af_ast_Int : AF := .mk 0 (.seq (.ops [.mk (.to q0) .no (.a (.alloc 2 [[(.str 0 0), (.bool false)]]))])
 (.seq (.ops [.mk .ps .no (.n (.build [(.str 0 0), (.bool false)] [(0, 1, (.c (.str 3 7630441)))])),
   .mk .no .no (.e (.st 2 r0 (.s 0)))])
  .ret))
 [.celln q0 2] .no 0
/- kiln/ast.Bool -/
def af_ast_Bool : AF := .mk 0 (.seq (.ops [.mk (.to q0) .no (.a (.alloc 2 [[(.str 0 0), (.bool false)]]))])
 (.seq (.ops [.mk .ps .no (.n (.build [(.str 0 0), (.bool false)] [(0, 1, (.c (.str 4 1819242338)))])),
   .mk .no .no (.e (.st 2 r0 (.s 0)))])
  .ret))
 [.celln q0 2] .no 0
/- kiln/ast.Of -/
def af_ast_Of : AF := .mk 1 (.seq (.ops [.mk (.to q2) .no (.a (.alloc 2 [[(.str 0 0), (.bool false)]]))])
 (.seq (.ops [.mk .ps .no (.n (.build [(.str 0 0), (.bool false)] [(0, 1, r0)])),
   .mk .no .no (.e (.st 2 r2 (.s 0)))])
  .ret))
 [.celln q2 2] .no 0
/- (*kiln/parse.parser).down -/
def af_parse_parser_down : AF := .mk 1 (.seq (.ops [.mk (.to q1) .no (.a (.box r0)),
  .mk (.to q2) .no (.n (.mv (.c .nilf)))])
 (.seq (.seq (.ops [.mk .ps .no (.n (.ld1 r1)),
    .mk .ps .no (.n (.nilck (.s 0))),
    .mk .ps .no (.n (.faddr 1 (.s 0))),
    .mk .ps .no (.n (.ld1 (.s 0))),
    .mk .ps .no (.n (.bin .add (.s 0) (.c (.int .i64 (.ofNat 1) 0)))),
    .mk .ps .no (.n (.nilck (.s 4))),
    .mk .ps .no (.n (.faddr 1 (.s 0))),
    .mk .no .no (.e (.st 1 (.s 0) (.s 2)))])
   (.seq (.ops [.mk .ps .no (.n (.ld1 r1)),
     .mk .ps .no (.n (.nilck (.s 0))),
     .mk .ps .no (.n (.faddr 1 (.s 0))),
     .mk .ps .no (.n (.ld1 (.s 0))),
     .mk (.to q14) .no (.n (.bin .gtr (.s 0) (.c (.int .i64 (.ofNat 100) 0))))])
    (.cond r14 (.ops [.mk .ps .no (.n (.ld1 r1)),
      .mk .ps .no (.e (.call n_parse_parser_fail [(.s 0), (.c (.int .i64 (.ofNat 3) 0))]))])
     .skip)))
  (.seq (.ops [.mk .ps .no (.n (.mkfn n_parse_parser_down_1 [] [r1])),
    .mk (.to q2) .no (.n (.mv (.s 0)))])
   .ret)))
 [.tmp q2] .no 0
/- (*kiln/parse.parser).stmt -/
def af_parse_parser_stmt : AF := .mk 1 (.seq (.ops [.mk (.to q2) .no (.a (.alloc 9 [[(.int .i64 (.ofNat 0) 0), (.int .i64 (.ofNat 0) 0), (.int .i64 (.ofNat 0) 0), (.str 0 0), (.str 0 0), (.bool false), .nils, .nils, .nils]]))])
 (.seq (.ops [.mk .ps .no (.n (.nilck r0)),
   .mk .ps .no (.n (.faddr 0 (.s 0))),
   .mk .ps .no (.n (.ld1 (.s 0))),
   .mk .ps .no (.n (.iaddr 5 (.s 0) (.c (.int .i64 (.ofNat 0) 0)))),
   .mk .ps .no (.n (.faddr 3 (.s 0))),
   .mk .ps .no (.n (.ldn 2 (.s 0))),
   .mk .ps .no (.n (.build [(.int .i64 (.ofNat 0) 0), (.int .i64 (.ofNat 0) 0), (.int .i64 (.ofNat 0) 0), (.str 0 0), (.str 0 0), (.bool false), .nils, .nils, .nils] [(1, 2, (.s 0))])),
   .mk (.to q3) .no (.a (.alloc 9 [[(.int .i64 (.ofNat 0) 0), (.int .i64 (.ofNat 0) 0), (.int .i64 (.ofNat 0) 0), (.str 0 0), (.str 0 0), (.bool false), .nils, .nils, .nils]])),
   .mk .no .no (.e (.st 9 r3 (.s 0)))])
  (.seq (.block 0 (.seq (.ops [.mk .ps .no (.e (.call n_parse_parser_take [r0, (.c (.str 3 7628140))])),
      .mk (.to q14) .no (.n (.mv (.s 0)))])
     (.cond r14 (.seq (.ops [.mk .ps .no (.n (.faddr 0 r3)),
        .mk .no .no (.e (.st 1 (.s 0) (.c (.int .i64 (.ofNat 1) 0))))])
       (.seq (.ops [.mk .ps .no (.e (.call n_parse_parser_typ [r0])),
         .mk .ps .no (.n (.faddr 4 r3)),
         .mk .no .no (.e (.st 2 (.s 0) (.s 1)))])
        (.seq (.ops [.mk .ps .no (.e (.call n_parse_parser_name [r0, (.c (.int .i64 (.ofNat 3) 0))])),
          .mk .ps .no (.n (.faddr 3 r3)),
          .mk .no .no (.e (.st 1 (.s 0) (.s 1)))])
         (.seq (.ops [.mk .ps .no (.a (.bslice 1 1 [(.str 0 0)] [(0, (.c (.str 1 61)))])),
           .mk .ps .no (.e (.call n_parse_parser_want [r0, (.s 0)]))])
          (.ops [.mk .ps .no (.e (.call n_parse_parser_expr [r0])),
           .mk .ps .no (.a (.bslice 11 1 [(.int .i64 (.ofNat 0) 0), (.int .i64 (.ofNat 0) 0), (.int .i64 (.ofNat 0) 0), (.int .i64 (.ofNat 0) 0), (.str 0 0), (.str 0 0), (.bool false), .nils, (.str 0 0), (.bool false), (.str 0 0)] [(0, (.s 0))])),
           .mk .ps .no (.n (.faddr 6 r3)),
           .mk .no .no (.e (.st 1 (.s 0) (.s 1)))])))))
      (.seq (.ops [.mk .ps .no (.a (.bslice 1 1 [(.str 0 0)] [(0, (.c (.str 2 26217)))])),
        .mk .ps .no (.e (.call n_parse_parser_is [r0, (.s 0)])),
        .mk (.to q31) .no (.n (.mv (.s 0)))])
       (.cond r31 (.seq (.ops [.mk .ps .no (.e (.call n_parse_parser_choice [r0])),
          .mk .no .no (.e (.st 9 r2 (.s 0)))])
         .ret)
        (.seq (.ops [.mk .ps .no (.e (.call n_parse_parser_take [r0, (.c (.str 5 435610544247))])),
          .mk (.to q37) .no (.n (.mv (.s 0)))])
         (.cond r37 (.seq (.ops [.mk .ps .no (.n (.faddr 0 r3)),
            .mk .no .no (.e (.st 1 (.s 0) (.c (.int .i64 (.ofNat 5) 0))))])
           (.seq (.ops [.mk .ps .no (.e (.call n_parse_parser_expr [r0])),
             .mk .ps .no (.a (.bslice 11 1 [(.int .i64 (.ofNat 0) 0), (.int .i64 (.ofNat 0) 0), (.int .i64 (.ofNat 0) 0), (.int .i64 (.ofNat 0) 0), (.str 0 0), (.str 0 0), (.bool false), .nils, (.str 0 0), (.bool false), (.str 0 0)] [(0, (.s 0))])),
             .mk .ps .no (.n (.faddr 6 r3)),
             .mk .no .no (.e (.st 1 (.s 0) (.s 1)))])
            (.seq (.ops [.mk .ps .no (.e (.call n_parse_parser_block [r0])),
              .mk .ps .no (.n (.faddr 7 r3)),
              .mk .no .no (.e (.st 1 (.s 0) (.s 1)))])
             (.seq (.ops [.mk .ps .no (.n (.ldn 9 r3)),
               .mk .no .no (.e (.st 9 r2 (.s 0)))])
              .ret))))
          (.seq (.ops [.mk .ps .no (.e (.call n_parse_parser_take [r0, (.c (.str 6 121437875889522))])),
            .mk (.to q49) .no (.n (.mv (.s 0)))])
           (.cond r49 (.ops [.mk .ps .no (.e (.call n_parse_parser_expr [r0])),
             .mk .ps .no (.a (.bslice 11 1 [(.int .i64 (.ofNat 0) 0), (.int .i64 (.ofNat 0) 0), (.int .i64 (.ofNat 0) 0), (.int .i64 (.ofNat 0) 0), (.str 0 0), (.str 0 0), (.bool false), .nils, (.str 0 0), (.bool false), (.str 0 0)] [(0, (.s 0))])),
             .mk .ps .no (.n (.faddr 0 r3)),
             .mk .no .no (.e (.st 1 (.s 0) (.c (.int .i64 (.ofNat 6) 0)))),
             .mk .ps .no (.n (.faddr 6 r3)),
             .mk .no .no (.e (.st 1 (.s 0) (.s 2)))])
            (.seq (.ops [.mk .ps .no (.e (.call n_parse_parser_take [r0, (.c (.str 5 500068610672))])),
              .mk (.to q57) .no (.n (.mv (.s 0)))])
             (.cond r57 (.ops [.mk .ps .no (.e (.call n_parse_parser_expr [r0])),
               .mk .ps .no (.a (.bslice 11 1 [(.int .i64 (.ofNat 0) 0), (.int .i64 (.ofNat 0) 0), (.int .i64 (.ofNat 0) 0), (.int .i64 (.ofNat 0) 0), (.str 0 0), (.str 0 0), (.bool false), .nils, (.str 0 0), (.bool false), (.str 0 0)] [(0, (.s 0))])),
               .mk .ps .no (.n (.faddr 0 r3)),
               .mk .no .no (.e (.st 1 (.s 0) (.c (.int .i64 (.ofNat 7) 0)))),
               .mk .ps .no (.n (.faddr 6 r3)),
               .mk .no .no (.e (.st 1 (.s 0) (.s 2)))])
              (.ops [.mk .ps .no (.e (.call n_parse_parser_plain [r0, r3]))]))))))))))))
   (.seq (.ops [.mk .ps .no (.a (.bslice 1 1 [(.str 0 0)] [(0, (.c (.str 1 59)))])),
     .mk .ps .no (.e (.call n_parse_parser_want [r0, (.s 0)]))])
    (.seq (.ops [.mk .ps .no (.n (.ldn 9 r3)),
      .mk .no .no (.e (.st 9 r2 (.s 0)))])
     .ret)))))
 [.celln q2 9] .no 0
/- math/bits.TrailingZeros32 -/
def af_math_bits_TrailingZeros32 : AF := .mk 1 (.seq (.ops [.mk (.to q2) .no (.n (.mv (.c (.int .i64 (.ofNat 0) 0))))])
 (.seq (.seq (.ops [.mk (.to q4) .no (.n (.eq (.one .int) false r0 (.c (.int .u32 (.ofNat 0) 0))))])
   (.cond r4 (.seq (.ops [.mk (.to q2) .no (.n (.mv (.c (.int .i64 (.ofNat 32) 0))))])
     .ret)
    .skip))
  (.seq (.ops [.mk .ps .no (.n (.neg r0)),
    .mk .ps .no (.n (.bin .and r0 (.s 0))),
    .mk .ps .no (.n (.bin .mul (.s 0) (.c (.int .u32 (.ofNat 125613361) 0)))),
    .mk .ps .no (.n (.bin .shr (.s 0) (.c (.int .u64 (.ofNat 27) 0)))),
    .mk .ps .no (.n (.iaddrA 32 1 (.c (.gptr 2 0)) (.s 0))),
    .mk .ps .no (.n (.ld1 (.s 0))),
    .mk .ps .no (.n (.cvi .i64 (.s 0))),
    .mk (.to q2) .no (.n (.mv (.s 0)))])
   .ret)))
 [.tmp q2] .no 0
/- math/bits.TrailingZeros64 -/
def af_math_bits_TrailingZeros64 : AF := .mk 1 (.seq (.ops [.mk (.to q2) .no (.n (.mv (.c (.int .i64 (.ofNat 0) 0))))])
 (.seq (.seq (.ops [.mk (.to q4) .no (.n (.eq (.one .int) false r0 (.c (.int .u64 (.ofNat 0) 0))))])
   (.cond r4 (.seq (.ops [.mk (.to q2) .no (.n (.mv (.c (.int .i64 (.ofNat 64) 0))))])
     .ret)
    .skip))
  (.seq (.ops [.mk .ps .no (.n (.neg r0)),
    .mk .ps .no (.n (.bin .and r0 (.s 0))),
    .mk .ps .no (.n (.bin .mul (.s 0) (.c (.int .u64 (.ofNat 285870213051353865) 0)))),
    .mk .ps .no (.n (.bin .shr (.s 0) (.c (.int .u64 (.ofNat 58) 0)))),
    .mk .ps .no (.n (.iaddrA 64 1 (.c (.gptr 3 0)) (.s 0))),
    .mk .ps .no (.n (.ld1 (.s 0))),
    .mk .ps .no (.n (.cvi .i64 (.s 0))),
    .mk (.to q2) .no (.n (.mv (.s 0)))])
   .ret)))
 [.tmp q2] .no 0
/- (*kiln/parse.parser).down$1 -/
def af_parse_parser_down_1 : AF := .mk 1 (.ops [.mk .ps .no (.n (.ld1 r0)),
 .mk .ps .no (.n (.nilck (.s 0))),
 .mk .ps .no (.n (.faddr 1 (.s 0))),
 .mk .ps .no (.n (.ld1 (.s 0))),
 .mk .ps .no (.n (.bin .sub (.s 0) (.c (.int .i64 (.ofNat 1) 0)))),
 .mk .ps .no (.n (.nilck (.s 4))),
 .mk .ps .no (.n (.faddr 1 (.s 0))),
 .mk .no .no (.e (.st 1 (.s 0) (.s 2)))])
 [] .no 0
/- (*kiln/parse.parser).expr -/
def af_parse_parser_expr : AF := .mk 1 (.seq (.ops [.mk (.to q1) .no (.a (.box r0)),
  .mk (.to q2) .no (.a (.alloc 11 [[(.int .i64 (.ofNat 0) 0), (.int .i64 (.ofNat 0) 0), (.int .i64 (.ofNat 0) 0), (.int .i64 (.ofNat 0) 0), (.str 0 0), (.str 0 0), (.bool false), .nils, (.str 0 0), (.bool false), (.str 0 0)]]))])
 (.seq (.ops [.mk .ps .no (.n (.ld1 r1)),
   .mk .ps .no (.e (.call n_parse_parser_down [(.s 0)])),
   .mk (.to q8) .no (.e (.defer q8 (.s 0) []))])
  (.seq (.ops [.mk .ps .no (.n (.ld1 r1)),
    .mk .ps .no (.n (.mkfn n_parse_parser_expr_1 [] [r1])),
    .mk .ps .no (.e (.call n_parse_parser_either [(.s 1), (.c (.int .i64 (.ofNat 18) 0)), (.c (.str 2 31868)), (.s 0)])),
    .mk .no .no (.e (.st 11 r2 (.s 0)))])
   .ret)))
 [.celln q2 11] (.to q8) n_parse_parser_down_1
/- (*kiln/parse.parser).choice -/
def af_parse_parser_choice : AF := .mk 1 (.seq (.ops [.mk (.to q2) .no (.a (.alloc 9 [[(.int .i64 (.ofNat 0) 0), (.int .i64 (.ofNat 0) 0), (.int .i64 (.ofNat 0) 0), (.str 0 0), (.str 0 0), (.bool false), .nils, .nils, .nils]]))])
 (.seq (.ops [.mk .ps .no (.e (.call n_parse_parser_down [r0])),
   .mk (.to q37) .no (.e (.defer q37 (.s 0) []))])
  (.seq (.ops [.mk .ps .no (.n (.nilck r0)),
    .mk .ps .no (.n (.faddr 0 (.s 0))),
    .mk .ps .no (.n (.ld1 (.s 0))),
    .mk .ps .no (.n (.iaddr 5 (.s 0) (.c (.int .i64 (.ofNat 0) 0)))),
    .mk .ps .no (.n (.faddr 3 (.s 0))),
    .mk .ps .no (.n (.ldn 2 (.s 0))),
    .mk .ps .no (.n (.build [(.int .i64 (.ofNat 0) 0), (.int .i64 (.ofNat 0) 0), (.int .i64 (.ofNat 0) 0), (.str 0 0), (.str 0 0), (.bool false), .nils, .nils, .nils] [(0, 1, (.c (.int .i64 (.ofNat 4) 0))), (1, 2, (.s 0))])),
    .mk (.to q3) .no (.a (.alloc 9 [[(.int .i64 (.ofNat 0) 0), (.int .i64 (.ofNat 0) 0), (.int .i64 (.ofNat 0) 0), (.str 0 0), (.str 0 0), (.bool false), .nils, .nils, .nils]])),
    .mk .no .no (.e (.st 9 r3 (.s 0)))])
   (.seq (.ops [.mk .ps .no (.a (.bslice 1 1 [(.str 0 0)] [(0, (.c (.str 2 26217)))])),
     .mk .ps .no (.e (.call n_parse_parser_want [r0, (.s 0)]))])
    (.seq (.ops [.mk .ps .no (.e (.call n_parse_parser_expr [r0])),
      .mk .ps .no (.a (.bslice 11 1 [(.int .i64 (.ofNat 0) 0), (.int .i64 (.ofNat 0) 0), (.int .i64 (.ofNat 0) 0), (.int .i64 (.ofNat 0) 0), (.str 0 0), (.str 0 0), (.bool false), .nils, (.str 0 0), (.bool false), (.str 0 0)] [(0, (.s 0))])),
      .mk .ps .no (.n (.faddr 6 r3)),
      .mk .no .no (.e (.st 1 (.s 0) (.s 1)))])
     (.seq (.ops [.mk .ps .no (.e (.call n_parse_parser_block [r0])),
       .mk .ps .no (.n (.faddr 7 r3)),
       .mk .no .no (.e (.st 1 (.s 0) (.s 1)))])
      (.seq (.seq (.ops [.mk (.to q25) .no (.e (.call n_parse_parser_take [r0, (.c (.str 4 1702063205))]))])
        (.cond r25 (.seq (.ops [.mk .ps .no (.a (.bslice 1 1 [(.str 0 0)] [(0, (.c (.str 2 26217)))])),
           .mk (.to q28) .no (.e (.call n_parse_parser_is [r0, (.s 0)]))])
          (.cond r28 (.ops [.mk .ps .no (.e (.call n_parse_parser_choice [r0])),
            .mk .ps .no (.a (.bslice 9 1 [(.int .i64 (.ofNat 0) 0), (.int .i64 (.ofNat 0) 0), (.int .i64 (.ofNat 0) 0), (.str 0 0), (.str 0 0), (.bool false), .nils, .nils, .nils] [(0, (.s 0))])),
            .mk .ps .no (.n (.faddr 8 r3)),
            .mk .no .no (.e (.st 1 (.s 0) (.s 1)))])
           (.ops [.mk .ps .no (.e (.call n_parse_parser_block [r0])),
            .mk .ps .no (.n (.faddr 8 r3)),
            .mk .no .no (.e (.st 1 (.s 0) (.s 1)))])))
         .skip))
       (.seq (.ops [.mk .ps .no (.n (.ldn 9 r3)),
         .mk .no .no (.e (.st 9 r2 (.s 0)))])
        .ret))))))))
 [.celln q2 9] (.to q37) n_parse_parser_down_1
/- (*kiln/parse.parser).plain -/
def af_parse_parser_plain : AF := .mk 2 (.seq (.ops [.mk .ps .no (.e (.call n_parse_parser_expr [r0])),
  .mk (.to q4) .no (.a (.alloc 11 [[(.int .i64 (.ofNat 0) 0), (.int .i64 (.ofNat 0) 0), (.int .i64 (.ofNat 0) 0), (.int .i64 (.ofNat 0) 0), (.str 0 0), (.str 0 0), (.bool false), .nils, (.str 0 0), (.bool false), (.str 0 0)]])),
  .mk .no .no (.e (.st 11 r4 (.s 0)))])
 (.seq (.reg [.op (.mk (.to q7) .no (.n (.mv r1))),
   .op (.mk (.to q8) .no (.n (.mv r1))),
   .op (.mk (.to q9) .no (.n (.ldn 11 r4))),
   .op (.mk (.to q10) .no (.a (.bslice 11 1 [(.int .i64 (.ofNat 0) 0), (.int .i64 (.ofNat 0) 0), (.int .i64 (.ofNat 0) 0), (.int .i64 (.ofNat 0) 0), (.str 0 0), (.str 0 0), (.bool false), .nils, (.str 0 0), (.bool false), (.str 0 0)] [(0, r9)]))),
   .op (.mk (.to q11) .no (.n (.nilck r7))),
   .op (.mk (.to q12) .no (.n (.faddr 0 r11))),
   .op (.mk .no .no (.e (.st 1 r12 (.c (.int .i64 (.ofNat 3) 0))))),
   .re q9 .no (.ldn 11 r4),
   .op (.mk (.to q13) .no (.n (.nilck r8))),
   .op (.mk (.to q14) .no (.n (.faddr 6 r13))),
   .op (.mk .no .no (.e (.st 1 r14 r10)))])
  (.seq (.seq (.ops [.mk .ps .no (.a (.bslice 1 1 [(.str 0 0)] [(0, (.c (.str 1 61)))])),
     .mk .ps .no (.e (.call n_parse_parser_is [r0, (.s 0)])),
     .mk (.to q18) .no (.n (.not (.s 0)))])
    (.cond r18 (.seq (.seq (.ops [.mk .ps .no (.n (.faddr 0 r4)),
        .mk .ps .no (.n (.ld1 (.s 0))),
        .mk .ps .no (.n (.eq (.one .int) true (.s 0) (.c (.int .i64 (.ofNat 8) 0)))),
        .mk .ps (.on (.s 0) true) (.n (.faddr 0 r4)),
        .mk .ps (.on (.s 1) true) (.n (.ld1 (.s 0))),
        .mk .ps (.on (.s 2) true) (.n (.eq (.one .int) true (.s 0) (.c (.int .i64 (.ofNat 9) 0)))),
        .mk (.to q26) .no (.n (.pick (.s 3) (.s 0) (.c (.bool false))))])
       (.cond r26 (.ops [.mk .ps .no (.e (.call n_parse_parser_fail [r0, (.c (.int .i64 (.ofNat 21) 0))]))])
        .skip))
      .ret)
     .skip))
   (.seq (.seq (.ops [.mk .ps .no (.n (.faddr 0 r4)),
      .mk .ps .no (.n (.ld1 (.s 0))),
      .mk .ps .no (.n (.eq (.one .int) true (.s 0) (.c (.int .i64 (.ofNat 6) 0)))),
      .mk .ps (.on (.s 0) true) (.n (.faddr 0 r4)),
      .mk .ps (.on (.s 1) true) (.n (.ld1 (.s 0))),
      .mk .ps (.on (.s 2) true) (.n (.eq (.one .int) true (.s 0) (.c (.int .i64 (.ofNat 7) 0)))),
      .mk .ps .no (.n (.pick (.s 3) (.s 0) (.c (.bool false)))),
      .mk .ps (.on (.s 0) true) (.n (.faddr 0 r4)),
      .mk .ps (.on (.s 1) true) (.n (.ld1 (.s 0))),
      .mk .ps (.on (.s 2) true) (.n (.eq (.one .int) true (.s 0) (.c (.int .i64 (.ofNat 12) 0)))),
      .mk (.to q41) .no (.n (.pick (.s 3) (.s 0) (.c (.bool false))))])
     (.cond r41 (.ops [.mk .ps .no (.e (.call n_parse_parser_fail [r0, (.c (.int .i64 (.ofNat 21) 0))]))])
      .skip))
    (.seq (.ops [.mk .ps .no (.a (.bslice 1 1 [(.str 0 0)] [(0, (.c (.str 1 61)))])),
      .mk .ps .no (.e (.call n_parse_parser_want [r0, (.s 0)]))])
     (.reg [.op (.mk (.to q47) .no (.n (.mv r1))),
      .op (.mk (.to q48) .no (.n (.mv r1))),
      .op (.mk (.to q49) .no (.n (.mv r1))),
      .op (.mk (.to q50) .no (.n (.nilck r49))),
      .op (.mk (.to q51) .no (.n (.faddr 6 r50))),
      .op (.mk (.to q52) .no (.n (.ld1 r51))),
      .op (.mk (.to q53) .no (.n (.mv r0))),
      .op (.mk (.to q54) .no (.e (.call n_parse_parser_expr [r53]))),
      .re q52 .no (.ld1 r51),
      .op (.mk (.to q55) .no (.a (.bslice 11 1 [(.int .i64 (.ofNat 0) 0), (.int .i64 (.ofNat 0) 0), (.int .i64 (.ofNat 0) 0), (.int .i64 (.ofNat 0) 0), (.str 0 0), (.str 0 0), (.bool false), .nils, (.str 0 0), (.bool false), (.str 0 0)] [(0, r54)]))),
      .op (.mk (.to q56) .no (.e (.app 11 136 r52 r55))),
      .op (.mk (.to q57) .no (.n (.nilck r47))),
      .op (.mk (.to q58) .no (.n (.faddr 0 r57))),
      .op (.mk .no .no (.e (.st 1 r58 (.c (.int .i64 (.ofNat 2) 0))))),
      .op (.mk (.to q59) .no (.n (.nilck r48))),
      .op (.mk (.to q60) .no (.n (.faddr 6 r59))),
      .op (.mk .no .no (.e (.st 1 r60 r56)))]))))))
 [] .no 0
/- (*kiln/parse.parser).either -/
def af_parse_parser_either : AF := .mk 4 (.seq (.ops [.mk (.to q8) .no (.a (.alloc 11 [[(.int .i64 (.ofNat 0) 0), (.int .i64 (.ofNat 0) 0), (.int .i64 (.ofNat 0) 0), (.int .i64 (.ofNat 0) 0), (.str 0 0), (.str 0 0), (.bool false), .nils, (.str 0 0), (.bool false), (.str 0 0)]]))])
 (.seq (.ops [.mk .ps .no (.e (.callv r3 [])),
   .mk (.to q9) .no (.a (.alloc 11 [[(.int .i64 (.ofNat 0) 0), (.int .i64 (.ofNat 0) 0), (.int .i64 (.ofNat 0) 0), (.int .i64 (.ofNat 0) 0), (.str 0 0), (.str 0 0), (.bool false), .nils, (.str 0 0), (.bool false), (.str 0 0)]])),
   .mk .no .no (.e (.st 11 r9 (.s 0)))])
  (.seq (.block 0 (.loop (.seq (.seq (.ops [.mk .ps .no (.a (.bslice 1 1 [(.str 0 0)] [(0, r2)])),
        .mk (.to q16) .no (.e (.call n_parse_parser_is [r0, (.s 0)]))])
       (.cond r16 .skip
        (.exit 0)))
      (.block 1 (.seq (.ops [.mk .ps .no (.e (.call n_parse_parser_next [r0])),
         .mk .ps .no (.n (.fieldn 3 2 (.s 0))),
         .mk (.to q10) .no (.a (.alloc 2 [[(.int .i64 (.ofNat 0) 0), (.int .i64 (.ofNat 0) 0)]])),
         .mk .no .no (.e (.st 2 r10 (.s 0)))])
        (.reg [.op (.mk (.to q20) .no (.n (.mv r1))),
         .op (.mk (.to q21) .no (.n (.ldn 2 r10))),
         .op (.mk (.to q22) .no (.n (.ldn 11 r9))),
         .op (.mk (.to q23) .no (.n (.mv r3))),
         .op (.mk (.to q24) .no (.e (.callv r23 []))),
         .re q21 .no (.ldn 2 r10),
         .re q22 .no (.ldn 11 r9),
         .op (.mk (.to q25) .no (.a (.bslice 11 2 [(.int .i64 (.ofNat 0) 0), (.int .i64 (.ofNat 0) 0), (.int .i64 (.ofNat 0) 0), (.int .i64 (.ofNat 0) 0), (.str 0 0), (.str 0 0), (.bool false), .nils, (.str 0 0), (.bool false), (.str 0 0)] [(0, r22), (1, r24)]))),
         .op (.mk (.to q26) .no (.n (.build [(.int .i64 (.ofNat 0) 0), (.int .i64 (.ofNat 0) 0), (.int .i64 (.ofNat 0) 0), (.int .i64 (.ofNat 0) 0), (.str 0 0), (.str 0 0), (.bool false), .nils, (.str 0 0), (.bool false), (.str 0 0)] [(0, 1, r20), (1, 2, r21), (7, 1, r25)]))),
         .op (.mk .no .no (.e (.st 11 r9 r26)))]))))))
   (.seq (.ops [.mk .ps .no (.n (.ldn 11 r9)),
     .mk .no .no (.e (.st 11 r8 (.s 0)))])
    .ret))))
 [.celln q8 11] .no 0
/- (*kiln/parse.parser).expr$1 -/
def af_parse_parser_expr_1 : AF := .mk 1 (.seq (.ops [.mk (.to q1) .no (.a (.alloc 11 [[(.int .i64 (.ofNat 0) 0), (.int .i64 (.ofNat 0) 0), (.int .i64 (.ofNat 0) 0), (.int .i64 (.ofNat 0) 0), (.str 0 0), (.str 0 0), (.bool false), .nils, (.str 0 0), (.bool false), (.str 0 0)]]))])
 (.seq (.ops [.mk .ps .no (.n (.ld1 r0)),
   .mk .ps .no (.n (.ld1 r0)),
   .mk .ps .no (.n (.mkfn n_parse_parser_compared [(.s 0)] [])),
   .mk .ps .no (.e (.call n_parse_parser_either [(.s 2), (.c (.int .i64 (.ofNat 17) 0)), (.c (.str 2 9766)), (.s 0)])),
   .mk .no .no (.e (.st 11 r1 (.s 0)))])
  .ret))
 [.celln q1 11] .no 0
/- (*kiln/parse.parser).compared -/
def af_parse_parser_compared : AF := .mk 1 (.seq (.ops [.mk (.to q1) .no (.a (.box r0)),
  .mk (.to q2) .no (.a (.alloc 11 [[(.int .i64 (.ofNat 0) 0), (.int .i64 (.ofNat 0) 0), (.int .i64 (.ofNat 0) 0), (.int .i64 (.ofNat 0) 0), (.str 0 0), (.str 0 0), (.bool false), .nils, (.str 0 0), (.bool false), (.str 0 0)]]))])
 (.seq (.ops [.mk .ps .no (.n (.mkfn n_parse_parser_compared_1 [] [r1])),
   .mk (.to q3) .no (.n (.mv (.s 0)))])
  (.seq (.ops [.mk .ps .no (.e (.callv r3 [])),
    .mk (.to q4) .no (.a (.alloc 11 [[(.int .i64 (.ofNat 0) 0), (.int .i64 (.ofNat 0) 0), (.int .i64 (.ofNat 0) 0), (.int .i64 (.ofNat 0) 0), (.str 0 0), (.str 0 0), (.bool false), .nils, (.str 0 0), (.bool false), (.str 0 0)]])),
    .mk .no .no (.e (.st 11 r4 (.s 0)))])
   (.seq (.seq (.ops [.mk .ps .no (.n (.ld1 r1)),
      .mk .ps .no (.a (.bslice 1 4 [(.str 0 0)] [(0, (.c (.str 2 15677))), (1, (.c (.str 2 15649))), (2, (.c (.str 1 60))), (3, (.c (.str 2 15676)))])),
      .mk (.to q11) .no (.e (.call n_parse_parser_is [(.s 1), (.s 0)]))])
     (.cond r11 (.seq (.ops [.mk .ps .no (.n (.ld1 r1)),
        .mk .ps .no (.e (.call n_parse_parser_next [(.s 0)])),
        .mk (.to q5) .no (.a (.alloc 5 [[(.int .i64 (.ofNat 0) 0), (.str 0 0), (.int .i64 (.ofNat 0) 0), (.int .i64 (.ofNat 0) 0), (.int .i64 (.ofNat 0) 0)]])),
        .mk .no .no (.e (.st 5 r5 (.s 0)))])
       (.reg [.op (.mk (.to q14) .no (.n (.faddr 3 r5))),
        .op (.mk (.to q15) .no (.n (.ldn 2 r14))),
        .op (.mk (.to q16) .no (.n (.faddr 1 r5))),
        .op (.mk (.to q17) .no (.n (.ld1 r16))),
        .op (.mk (.to q18) .no (.n (.ldn 11 r4))),
        .op (.mk (.to q19) .no (.n (.mv r3))),
        .op (.mk (.to q20) .no (.e (.callv r19 []))),
        .re q15 .no (.ldn 2 r14),
        .re q17 .no (.ld1 r16),
        .re q18 .no (.ldn 11 r4),
        .op (.mk (.to q21) .no (.a (.bslice 11 2 [(.int .i64 (.ofNat 0) 0), (.int .i64 (.ofNat 0) 0), (.int .i64 (.ofNat 0) 0), (.int .i64 (.ofNat 0) 0), (.str 0 0), (.str 0 0), (.bool false), .nils, (.str 0 0), (.bool false), (.str 0 0)] [(0, r18), (1, r20)]))),
        .op (.mk (.to q22) .no (.n (.build [(.int .i64 (.ofNat 0) 0), (.int .i64 (.ofNat 0) 0), (.int .i64 (.ofNat 0) 0), (.int .i64 (.ofNat 0) 0), (.str 0 0), (.str 0 0), (.bool false), .nils, (.str 0 0), (.bool false), (.str 0 0)] [(0, 1, (.c (.int .i64 (.ofNat 16) 0))), (1, 2, r15), (4, 1, r17), (7, 1, r21)]))),
        .op (.mk .no .no (.e (.st 11 r4 r22)))]))
      .skip))
    (.seq (.ops [.mk .ps .no (.n (.ldn 11 r4)),
      .mk .no .no (.e (.st 11 r2 (.s 0)))])
     .ret)))))
 [.celln q2 11] .no 0
/- (*kiln/parse.parser).compared$1 -/
def af_parse_parser_compared_1 : AF := .mk 1 (.seq (.ops [.mk (.to q1) .no (.a (.alloc 11 [[(.int .i64 (.ofNat 0) 0), (.int .i64 (.ofNat 0) 0), (.int .i64 (.ofNat 0) 0), (.int .i64 (.ofNat 0) 0), (.str 0 0), (.str 0 0), (.bool false), .nils, (.str 0 0), (.bool false), (.str 0 0)]]))])
 (.seq (.ops [.mk .ps .no (.n (.ld1 r0)),
   .mk .ps .no (.n (.mkfn n_parse_parser_compared_1_1 [] [r0])),
   .mk .ps .no (.a (.bslice 1 2 [(.str 0 0)] [(0, (.c (.str 1 43))), (1, (.c (.str 1 45)))])),
   .mk .ps .no (.e (.call n_parse_parser_signs [(.s 2), (.s 1), (.s 0)])),
   .mk .no .no (.e (.st 11 r1 (.s 0)))])
  .ret))
 [.celln q1 11] .no 0
/- (*kiln/parse.parser).signs -/
def af_parse_parser_signs : AF := .mk 3 (.seq (.ops [.mk (.to q6) .no (.a (.alloc 11 [[(.int .i64 (.ofNat 0) 0), (.int .i64 (.ofNat 0) 0), (.int .i64 (.ofNat 0) 0), (.int .i64 (.ofNat 0) 0), (.str 0 0), (.str 0 0), (.bool false), .nils, (.str 0 0), (.bool false), (.str 0 0)]]))])
 (.seq (.ops [.mk .ps .no (.e (.callv r1 [])),
   .mk (.to q7) .no (.a (.alloc 11 [[(.int .i64 (.ofNat 0) 0), (.int .i64 (.ofNat 0) 0), (.int .i64 (.ofNat 0) 0), (.int .i64 (.ofNat 0) 0), (.str 0 0), (.str 0 0), (.bool false), .nils, (.str 0 0), (.bool false), (.str 0 0)]])),
   .mk .no .no (.e (.st 11 r7 (.s 0)))])
  (.seq (.block 0 (.loop (.seq (.seq (.ops [.mk (.to q13) .no (.e (.call n_parse_parser_is [r0, r2]))])
       (.cond r13 .skip
        (.exit 0)))
      (.block 1 (.seq (.ops [.mk .ps .no (.e (.call n_parse_parser_next [r0])),
         .mk (.to q8) .no (.a (.alloc 5 [[(.int .i64 (.ofNat 0) 0), (.str 0 0), (.int .i64 (.ofNat 0) 0), (.int .i64 (.ofNat 0) 0), (.int .i64 (.ofNat 0) 0)]])),
         .mk .no .no (.e (.st 5 r8 (.s 0)))])
        (.reg [.op (.mk (.to q16) .no (.n (.faddr 3 r8))),
         .op (.mk (.to q17) .no (.n (.ldn 2 r16))),
         .op (.mk (.to q18) .no (.n (.faddr 1 r8))),
         .op (.mk (.to q19) .no (.n (.ld1 r18))),
         .op (.mk (.to q20) .no (.n (.ldn 11 r7))),
         .op (.mk (.to q21) .no (.n (.mv r1))),
         .op (.mk (.to q22) .no (.e (.callv r21 []))),
         .re q17 .no (.ldn 2 r16),
         .re q19 .no (.ld1 r18),
         .re q20 .no (.ldn 11 r7),
         .op (.mk (.to q23) .no (.a (.bslice 11 2 [(.int .i64 (.ofNat 0) 0), (.int .i64 (.ofNat 0) 0), (.int .i64 (.ofNat 0) 0), (.int .i64 (.ofNat 0) 0), (.str 0 0), (.str 0 0), (.bool false), .nils, (.str 0 0), (.bool false), (.str 0 0)] [(0, r20), (1, r22)]))),
         .op (.mk (.to q24) .no (.n (.build [(.int .i64 (.ofNat 0) 0), (.int .i64 (.ofNat 0) 0), (.int .i64 (.ofNat 0) 0), (.int .i64 (.ofNat 0) 0), (.str 0 0), (.str 0 0), (.bool false), .nils, (.str 0 0), (.bool false), (.str 0 0)] [(0, 1, (.c (.int .i64 (.ofNat 16) 0))), (1, 2, r17), (4, 1, r19), (7, 1, r23)]))),
         .op (.mk .no .no (.e (.st 11 r7 r24)))]))))))
   (.seq (.ops [.mk .ps .no (.n (.ldn 11 r7)),
     .mk .no .no (.e (.st 11 r6 (.s 0)))])
    .ret))))
 [.celln q6 11] .no 0
/- (*kiln/parse.parser).compared$1$1 -/
def af_parse_parser_compared_1_1 : AF := .mk 1 (.seq (.ops [.mk (.to q1) .no (.a (.alloc 11 [[(.int .i64 (.ofNat 0) 0), (.int .i64 (.ofNat 0) 0), (.int .i64 (.ofNat 0) 0), (.int .i64 (.ofNat 0) 0), (.str 0 0), (.str 0 0), (.bool false), .nils, (.str 0 0), (.bool false), (.str 0 0)]]))])
 (.seq (.ops [.mk .ps .no (.n (.ld1 r0)),
   .mk .ps .no (.n (.ld1 r0)),
   .mk .ps .no (.n (.mkfn n_parse_parser_unary [(.s 0)] [])),
   .mk .ps .no (.a (.bslice 1 3 [(.str 0 0)] [(0, (.c (.str 1 42))), (1, (.c (.str 1 47))), (2, (.c (.str 1 37)))])),
   .mk .ps .no (.e (.call n_parse_parser_signs [(.s 3), (.s 1), (.s 0)])),
   .mk .no .no (.e (.st 11 r1 (.s 0)))])
  .ret))
 [.celln q1 11] .no 0
/- (*kiln/parse.parser).unary -/
def af_parse_parser_unary : AF := .mk 1 (.seq (.ops [.mk (.to q2) .no (.a (.alloc 11 [[(.int .i64 (.ofNat 0) 0), (.int .i64 (.ofNat 0) 0), (.int .i64 (.ofNat 0) 0), (.int .i64 (.ofNat 0) 0), (.str 0 0), (.str 0 0), (.bool false), .nils, (.str 0 0), (.bool false), (.str 0 0)]]))])
 (.seq (.ops [.mk .ps .no (.n (.nilck r0)),
   .mk .ps .no (.n (.faddr 0 (.s 0))),
   .mk .ps .no (.n (.ld1 (.s 0))),
   .mk .ps .no (.n (.iaddr 5 (.s 0) (.c (.int .i64 (.ofNat 0) 0)))),
   .mk .ps .no (.n (.faddr 3 (.s 0))),
   .mk .ps .no (.n (.ldn 2 (.s 0))),
   .mk (.to q3) .no (.a (.alloc 2 [[(.int .i64 (.ofNat 0) 0), (.int .i64 (.ofNat 0) 0)]])),
   .mk .no .no (.e (.st 2 r3 (.s 0)))])
  (.seq (.seq (.ops [.mk (.to q16) .no (.a (.bslice 1 2 [(.str 0 0)] [(0, (.c (.str 1 45))), (1, (.c (.str 1 33)))])),
     .mk (.to q17) .no (.n (.lenL r16)),
     .mk (.to q18) .no (.n (.mv (.c (.int .i64 (.ofNat 0) 0))))])
    (.block 0 (.loop (.seq (.ops [.mk (.to q19) .no (.n (.bin .lss r18 r17))])
       (.seq (.cond r19 .skip
         (.exit 0))
        (.seq (.block 1 (.seq (.ops [.mk .ps .no (.n (.iaddr 1 r16 r18)),
            .mk .ps .no (.n (.ld1 (.s 0))),
            .mk (.to q4) .no (.n (.mv r18)),
            .mk (.to q5) .no (.n (.mv (.s 0)))])
           (.seq (.ops [.mk .ps .no (.a (.bslice 1 1 [(.str 0 0)] [(0, r5)])),
             .mk (.to q26) .no (.e (.call n_parse_parser_is [r0, (.s 0)]))])
            (.cond r26 (.seq (.ops [.mk .ps .no (.e (.call n_parse_parser_down [r0])),
               .mk (.to q63) .no (.e (.defer q63 (.s 0) []))])
              (.seq (.ops [.mk .ps .no (.e (.call n_parse_parser_next [r0]))])
               (.seq (.reg [.op (.mk (.to q31) .no (.a (.bslice 1 2 [(.int .i64 (.ofNat 0) 0)] [(0, (.c (.int .i64 (.ofNat 14) 0))), (1, (.c (.int .i64 (.ofNat 15) 0)))]))),
                 .op (.mk (.to q32) .no (.n (.mv r4))),
                 .op (.mk (.to q33) .no (.n (.iaddr 1 r31 r32))),
                 .op (.mk (.to q34) .no (.n (.ld1 r33))),
                 .op (.mk (.to q35) .no (.n (.ldn 2 r3))),
                 .op (.mk (.to q36) .no (.n (.mv r0))),
                 .op (.mk (.to q37) .no (.e (.call n_parse_parser_unary [r36]))),
                 .re q34 .no (.ld1 r33),
                 .re q35 .no (.ldn 2 r3),
                 .op (.mk (.to q38) .no (.a (.bslice 11 1 [(.int .i64 (.ofNat 0) 0), (.int .i64 (.ofNat 0) 0), (.int .i64 (.ofNat 0) 0), (.int .i64 (.ofNat 0) 0), (.str 0 0), (.str 0 0), (.bool false), .nils, (.str 0 0), (.bool false), (.str 0 0)] [(0, r37)]))),
                 .op (.mk .no .no (.e (.st 11 r2 (.c (.agg [(.int .i64 (.ofNat 0) 0), (.int .i64 (.ofNat 0) 0), (.int .i64 (.ofNat 0) 0), (.int .i64 (.ofNat 0) 0), (.str 0 0), (.str 0 0), (.bool false), .nils, (.str 0 0), (.bool false), (.str 0 0)]))))),
                 .re q34 .no (.ld1 r33),
                 .re q35 .no (.ldn 2 r3),
                 .op (.mk (.to q39) .no (.n (.faddr 0 r2))),
                 .op (.mk .no .no (.e (.st 1 r39 r34))),
                 .re q35 .no (.ldn 2 r3),
                 .op (.mk (.to q40) .no (.n (.faddr 1 r2))),
                 .op (.mk .no .no (.e (.st 2 r40 r35))),
                 .op (.mk (.to q41) .no (.n (.faddr 7 r2))),
                 .op (.mk .no .no (.e (.st 1 r41 r38)))])
                .ret)))
             .skip))))
         (.ops [.mk .ps .no (.n (.bin .add r18 (.c (.int .i64 (.ofNat 1) 0)))),
          .mk (.to q18) .no (.n (.mv (.s 0)))])))))))
   (.seq (.ops [.mk .ps .no (.e (.call n_parse_parser_parts [r0])),
     .mk (.to q6) .no (.a (.alloc 11 [[(.int .i64 (.ofNat 0) 0), (.int .i64 (.ofNat 0) 0), (.int .i64 (.ofNat 0) 0), (.int .i64 (.ofNat 0) 0), (.str 0 0), (.str 0 0), (.bool false), .nils, (.str 0 0), (.bool false), (.str 0 0)]])),
     .mk .no .no (.e (.st 11 r6 (.s 0)))])
    (.seq (.block 2 (.loop (.seq (.seq (.ops [.mk .ps .no (.a (.bslice 1 2 [(.str 0 0)] [(0, (.c (.str 2 29537))), (1, (.c (.str 2 29545)))])),
          .mk (.to q47) .no (.e (.call n_parse_parser_is [r0, (.s 0)]))])
         (.cond r47 .skip
          (.exit 2)))
        (.block 3 (.seq (.ops [.mk .ps .no (.e (.call n_parse_parser_next [r0])),
           .mk (.to q7) .no (.a (.alloc 5 [[(.int .i64 (.ofNat 0) 0), (.str 0 0), (.int .i64 (.ofNat 0) 0), (.int .i64 (.ofNat 0) 0), (.int .i64 (.ofNat 0) 0)]])),
           .mk .no .no (.e (.st 5 r7 (.s 0)))])
          (.seq (.ops [.mk (.to q8) .no (.n (.mv (.c (.int .i64 (.ofNat 19) 0))))])
           (.seq (.seq (.ops [.mk .ps .no (.n (.faddr 1 r7)),
              .mk .ps .no (.n (.ld1 (.s 0))),
              .mk (.to q52) .no (.n (.eq (.one .str) false (.s 0) (.c (.str 2 29545))))])
             (.cond r52 (.ops [.mk (.to q8) .no (.n (.mv (.c (.int .i64 (.ofNat 20) 0))))])
              .skip))
            (.reg [.op (.mk (.to q53) .no (.n (.mv r8))),
             .op (.mk (.to q54) .no (.n (.faddr 3 r7))),
             .op (.mk (.to q55) .no (.n (.ldn 2 r54))),
             .op (.mk (.to q56) .no (.n (.mv r0))),
             .op (.mk (.to q59) .no (.n (.ldn 11 r6))),
             .op (.mk (.to q60) .no (.a (.bslice 11 1 [(.int .i64 (.ofNat 0) 0), (.int .i64 (.ofNat 0) 0), (.int .i64 (.ofNat 0) 0), (.int .i64 (.ofNat 0) 0), (.str 0 0), (.str 0 0), (.bool false), .nils, (.str 0 0), (.bool false), (.str 0 0)] [(0, r59)]))),
             .op (.mk (.to q57) .no (.e (.call n_parse_parser_name [r56, (.c (.int .i64 (.ofNat 2) 0))]))),
             .re q55 .no (.ldn 2 r54),
             .re q59 .no (.ldn 11 r6),
             .op (.mk (.to q58) .no (.e (.call n_ast_Of [r57]))),
             .re q55 .no (.ldn 2 r54),
             .re q59 .no (.ldn 11 r6),
             .op (.mk (.to q61) .no (.n (.build [(.int .i64 (.ofNat 0) 0), (.int .i64 (.ofNat 0) 0), (.int .i64 (.ofNat 0) 0), (.int .i64 (.ofNat 0) 0), (.str 0 0), (.str 0 0), (.bool false), .nils, (.str 0 0), (.bool false), (.str 0 0)] [(0, 1, r53), (1, 2, r55), (5, 2, r58), (7, 1, r60)]))),
             .op (.mk .no .no (.e (.st 11 r6 r61)))]))))))))
     (.seq (.ops [.mk .ps .no (.n (.ldn 11 r6)),
       .mk .no .no (.e (.st 11 r2 (.s 0)))])
      .ret))))))
 [.celln q2 11] (.to q63) n_parse_parser_down_1
/- (*kiln/parse.parser).parts -/
def af_parse_parser_parts : AF := .mk 1 (.seq (.ops [.mk (.to q2) .no (.a (.alloc 11 [[(.int .i64 (.ofNat 0) 0), (.int .i64 (.ofNat 0) 0), (.int .i64 (.ofNat 0) 0), (.int .i64 (.ofNat 0) 0), (.str 0 0), (.str 0 0), (.bool false), .nils, (.str 0 0), (.bool false), (.str 0 0)]]))])
 (.seq (.ops [.mk .ps .no (.e (.call n_parse_parser_prim [r0])),
   .mk (.to q3) .no (.a (.alloc 11 [[(.int .i64 (.ofNat 0) 0), (.int .i64 (.ofNat 0) 0), (.int .i64 (.ofNat 0) 0), (.int .i64 (.ofNat 0) 0), (.str 0 0), (.str 0 0), (.bool false), .nils, (.str 0 0), (.bool false), (.str 0 0)]])),
   .mk .no .no (.e (.st 11 r3 (.s 0)))])
  (.block 0 (.loop (.block 1 (.seq (.ops [.mk .ps .no (.n (.nilck r0)),
       .mk .ps .no (.n (.faddr 0 (.s 0))),
       .mk .ps .no (.n (.ld1 (.s 0))),
       .mk .ps .no (.n (.iaddr 5 (.s 0) (.c (.int .i64 (.ofNat 0) 0)))),
       .mk .ps .no (.n (.faddr 3 (.s 0))),
       .mk .ps .no (.n (.ldn 2 (.s 0))),
       .mk (.to q4) .no (.a (.alloc 2 [[(.int .i64 (.ofNat 0) 0), (.int .i64 (.ofNat 0) 0)]])),
       .mk .no .no (.e (.st 2 r4 (.s 0)))])
      (.block 2 (.seq (.ops [.mk .ps .no (.e (.call n_parse_parser_take [r0, (.c (.str 1 91))])),
         .mk (.to q15) .no (.n (.mv (.s 0)))])
        (.cond r15 (.seq (.reg [.op (.mk (.to q18) .no (.n (.ldn 2 r4))),
           .op (.mk (.to q19) .no (.n (.ldn 11 r3))),
           .op (.mk (.to q20) .no (.n (.mv r0))),
           .op (.mk (.to q21) .no (.e (.call n_parse_parser_expr [r20]))),
           .re q18 .no (.ldn 2 r4),
           .re q19 .no (.ldn 11 r3),
           .op (.mk (.to q22) .no (.a (.bslice 11 2 [(.int .i64 (.ofNat 0) 0), (.int .i64 (.ofNat 0) 0), (.int .i64 (.ofNat 0) 0), (.int .i64 (.ofNat 0) 0), (.str 0 0), (.str 0 0), (.bool false), .nils, (.str 0 0), (.bool false), (.str 0 0)] [(0, r19), (1, r21)]))),
           .op (.mk (.to q23) .no (.n (.build [(.int .i64 (.ofNat 0) 0), (.int .i64 (.ofNat 0) 0), (.int .i64 (.ofNat 0) 0), (.int .i64 (.ofNat 0) 0), (.str 0 0), (.str 0 0), (.bool false), .nils, (.str 0 0), (.bool false), (.str 0 0)] [(0, 1, (.c (.int .i64 (.ofNat 12) 0))), (1, 2, r18), (7, 1, r22)]))),
           .op (.mk .no .no (.e (.st 11 r3 r23)))])
          (.ops [.mk .ps .no (.a (.bslice 1 1 [(.str 0 0)] [(0, (.c (.str 1 93)))])),
           .mk .ps .no (.e (.call n_parse_parser_want [r0, (.s 0)]))]))
         (.seq (.ops [.mk .ps .no (.e (.call n_parse_parser_take [r0, (.c (.str 1 46))])),
           .mk (.to q27) .no (.n (.mv (.s 0)))])
          (.cond r27 (.ops [.mk .ps .no (.n (.ldn 11 r3)),
            .mk .ps .no (.n (.ldn 2 r4)),
            .mk .ps .no (.e (.call n_parse_parser_member [r0, (.s 1), (.s 0)])),
            .mk .no .no (.e (.st 11 r3 (.s 0)))])
           (.seq (.ops [.mk .ps .no (.n (.ldn 11 r3)),
             .mk .no .no (.e (.st 11 r2 (.s 0)))])
            .ret))))))))))))
 [.celln q2 11] .no 0
/- (*kiln/parse.parser).prim -/
def af_parse_parser_prim : AF := .mk 1 (.seq (.ops [.mk (.to q2) .no (.a (.alloc 11 [[(.int .i64 (.ofNat 0) 0), (.int .i64 (.ofNat 0) 0), (.int .i64 (.ofNat 0) 0), (.int .i64 (.ofNat 0) 0), (.str 0 0), (.str 0 0), (.bool false), .nils, (.str 0 0), (.bool false), (.str 0 0)]]))])
 (.seq (.ops [.mk .ps .no (.n (.nilck r0)),
   .mk .ps .no (.n (.faddr 0 (.s 0))),
   .mk .ps .no (.n (.ld1 (.s 0))),
   .mk .ps .no (.n (.iaddr 5 (.s 0) (.c (.int .i64 (.ofNat 0) 0)))),
   .mk .ps .no (.n (.ldn 5 (.s 0))),
   .mk (.to q3) .no (.a (.alloc 5 [[(.int .i64 (.ofNat 0) 0), (.str 0 0), (.int .i64 (.ofNat 0) 0), (.int .i64 (.ofNat 0) 0), (.int .i64 (.ofNat 0) 0)]])),
   .mk .no .no (.e (.st 5 r3 (.s 0)))])
  (.seq (.ops [.mk .ps .no (.n (.faddr 3 r3)),
    .mk .ps .no (.n (.ldn 2 (.s 0))),
    .mk .ps .no (.n (.build [(.int .i64 (.ofNat 0) 0), (.int .i64 (.ofNat 0) 0), (.int .i64 (.ofNat 0) 0), (.int .i64 (.ofNat 0) 0), (.str 0 0), (.str 0 0), (.bool false), .nils, (.str 0 0), (.bool false), (.str 0 0)] [(1, 2, (.s 0))])),
    .mk (.to q4) .no (.a (.alloc 11 [[(.int .i64 (.ofNat 0) 0), (.int .i64 (.ofNat 0) 0), (.int .i64 (.ofNat 0) 0), (.int .i64 (.ofNat 0) 0), (.str 0 0), (.str 0 0), (.bool false), .nils, (.str 0 0), (.bool false), (.str 0 0)]])),
    .mk .no .no (.e (.st 11 r4 (.s 0)))])
   (.seq (.block 0 (.seq (.ops [.mk .ps .no (.e (.call n_parse_parser_ok [r0])),
       .mk .ps .no (.n (.not (.s 0))),
       .mk (.to q16) .no (.n (.mv (.s 0)))])
      (.cond r16 (.seq (.ops [.mk .ps .no (.n (.ldn 11 r4)),
         .mk .no .no (.e (.st 11 r2 (.s 0)))])
        .ret)
       (.seq (.ops [.mk .ps .no (.n (.faddr 0 r3)),
         .mk .ps .no (.n (.ld1 (.s 0))),
         .mk .ps .no (.n (.eq (.one .int) false (.s 0) (.c (.int .i64 (.ofNat 4) 0)))),
         .mk (.to q21) .no (.n (.mv (.s 0)))])
        (.cond r21 (.seq (.ops [.mk .ps .no (.e (.call n_parse_parser_next [r0]))])
          (.reg [.op (.mk (.to q27) .no (.n (.faddr 2 r3))),
           .op (.mk (.to q28) .no (.n (.ld1 r27))),
           .op (.mk (.to q29) .no (.n (.faddr 0 r4))),
           .op (.mk .no .no (.e (.st 1 r29 (.c (.int .i64 (.ofNat 1) 0))))),
           .re q28 .no (.ld1 r27),
           .op (.mk (.to q30) .no (.n (.faddr 3 r4))),
           .op (.mk .no .no (.e (.st 1 r30 r28)))]))
         (.seq (.ops [.mk .ps .no (.n (.faddr 0 r3)),
           .mk .ps .no (.n (.ld1 (.s 0))),
           .mk .ps .no (.n (.eq (.one .int) false (.s 0) (.c (.int .i64 (.ofNat 3) 0)))),
           .mk (.to q31) .no (.n (.mv (.s 0)))])
          (.cond r31 (.seq (.ops [.mk .ps .no (.e (.call n_parse_parser_next [r0]))])
            (.reg [.op (.mk (.to q37) .no (.n (.faddr 1 r3))),
             .op (.mk (.to q38) .no (.n (.ld1 r37))),
             .op (.mk (.to q39) .no (.n (.faddr 0 r4))),
             .op (.mk .no .no (.e (.st 1 r39 (.c (.int .i64 (.ofNat 6) 0))))),
             .re q38 .no (.ld1 r37),
             .op (.mk (.to q40) .no (.n (.faddr 4 r4))),
             .op (.mk .no .no (.e (.st 1 r40 r38)))]))
           (.seq (.ops [.mk .ps .no (.n (.faddr 0 r3)),
             .mk .ps .no (.n (.ld1 (.s 0))),
             .mk .ps .no (.n (.eq (.one .int) false (.s 0) (.c (.int .i64 (.ofNat 2) 0)))),
             .mk (.to q41) .no (.n (.mv (.s 0)))])
            (.cond r41 (.seq (.ops [.mk .ps .no (.e (.call n_parse_parser_next [r0])),
               .mk .ps .no (.n (.field1 1 (.s 0))),
               .mk .ps .no (.e (.call n_ast_Of [(.s 0)])),
               .mk .ps .no (.n (.faddr 0 r4)),
               .mk .no .no (.e (.st 1 (.s 0) (.c (.int .i64 (.ofNat 9) 0)))),
               .mk .ps .no (.n (.faddr 5 r4)),
               .mk .no .no (.e (.st 2 (.s 0) (.s 2)))])
              (.seq (.ops [.mk .ps .no (.a (.bslice 1 1 [(.str 0 0)] [(0, (.c (.str 1 46)))])),
                .mk .ps .no (.e (.call n_parse_parser_want [r0, (.s 0)]))])
               (.seq (.ops [.mk .ps .no (.e (.call n_parse_parser_name [r0, (.c (.int .i64 (.ofNat 3) 0))])),
                 .mk .ps .no (.n (.faddr 4 r4)),
                 .mk .no .no (.e (.st 1 (.s 0) (.s 1)))])
                (.ops [.mk .ps .no (.e (.call n_parse_parser_args [r0])),
                 .mk .ps .no (.n (.faddr 7 r4)),
                 .mk .no .no (.e (.st 1 (.s 0) (.s 1)))]))))
             (.seq (.ops [.mk .ps .no (.e (.call n_parse_parser_take [r0, (.c (.str 4 1702195828))])),
               .mk (.to q60) .no (.n (.mv (.s 0)))])
              (.cond r60 (.ops [.mk .ps .no (.n (.faddr 0 r4)),
                .mk .no .no (.e (.st 1 (.s 0) (.c (.int .i64 (.ofNat 2) 0))))])
               (.seq (.ops [.mk .ps .no (.e (.call n_parse_parser_take [r0, (.c (.str 5 435728179558))])),
                 .mk (.to q64) .no (.n (.mv (.s 0)))])
                (.cond r64 (.ops [.mk .ps .no (.n (.faddr 0 r4)),
                  .mk .no .no (.e (.st 1 (.s 0) (.c (.int .i64 (.ofNat 3) 0))))])
                 (.seq (.ops [.mk .ps .no (.e (.call n_parse_parser_take [r0, (.c (.str 4 1819047278))])),
                   .mk (.to q68) .no (.n (.mv (.s 0)))])
                  (.cond r68 (.ops [.mk .ps .no (.n (.faddr 0 r4)),
                    .mk .no .no (.e (.st 1 (.s 0) (.c (.int .i64 (.ofNat 4) 0))))])
                   (.seq (.ops [.mk .ps .no (.e (.call n_parse_parser_take [r0, (.c (.str 4 1936287860))])),
                     .mk (.to q72) .no (.n (.mv (.s 0)))])
                    (.cond r72 (.ops [.mk .ps .no (.n (.faddr 0 r4)),
                      .mk .no .no (.e (.st 1 (.s 0) (.c (.int .i64 (.ofNat 5) 0))))])
                     (.seq (.ops [.mk .ps .no (.e (.call n_parse_parser_take [r0, (.c (.str 3 7824750))])),
                       .mk (.to q76) .no (.n (.mv (.s 0)))])
                      (.cond r76 (.seq (.ops [.mk .ps .no (.e (.call n_parse_parser_base [r0])),
                         .mk .ps .no (.n (.faddr 0 r4)),
                         .mk .no .no (.e (.st 1 (.s 0) (.c (.int .i64 (.ofNat 10) 0)))),
                         .mk .ps .no (.n (.faddr 5 r4)),
                         .mk .no .no (.e (.st 2 (.s 0) (.s 2)))])
                        (.seq (.ops [.mk (.to q84) .no (.e (.call n_parse_parser_take [r0, (.c (.str 1 91))]))])
                         (.cond r84 (.seq (.ops [.mk .ps .no (.e (.call n_parse_parser_expr [r0])),
                            .mk .ps .no (.a (.bslice 11 1 [(.int .i64 (.ofNat 0) 0), (.int .i64 (.ofNat 0) 0), (.int .i64 (.ofNat 0) 0), (.int .i64 (.ofNat 0) 0), (.str 0 0), (.str 0 0), (.bool false), .nils, (.str 0 0), (.bool false), (.str 0 0)] [(0, (.s 0))])),
                            .mk .ps .no (.n (.faddr 0 r4)),
                            .mk .no .no (.e (.st 1 (.s 0) (.c (.int .i64 (.ofNat 11) 0)))),
                            .mk .ps .no (.n (.faddr 7 r4)),
                            .mk .no .no (.e (.st 1 (.s 0) (.s 2)))])
                           (.ops [.mk .ps .no (.a (.bslice 1 1 [(.str 0 0)] [(0, (.c (.str 1 93)))])),
                            .mk .ps .no (.e (.call n_parse_parser_want [r0, (.s 0)]))]))
                          (.seq (.ops [.mk .ps .no (.n (.faddr 5 r4)),
                            .mk .ps .no (.n (.ldn 2 (.s 0))),
                            .mk .ps .no (.e (.call n_ast_Type_Class [(.s 0)])),
                            .mk (.to q96) .no (.n (.not (.s 0)))])
                           (.cond r96 (.ops [.mk .ps .no (.e (.call n_parse_parser_fail [r0, (.c (.int .i64 (.ofNat 21) 0))]))])
                            .skip)))))
                       (.seq (.ops [.mk .ps .no (.e (.call n_parse_parser_take [r0, (.c (.str 1 40))])),
                         .mk (.to q99) .no (.n (.mv (.s 0)))])
                        (.cond r99 (.seq (.ops [.mk .ps .no (.e (.call n_parse_parser_expr [r0])),
                           .mk .no .no (.e (.st 11 r4 (.s 0)))])
                          (.ops [.mk .ps .no (.a (.bslice 1 1 [(.str 0 0)] [(0, (.c (.str 1 41)))])),
                           .mk .ps .no (.e (.call n_parse_parser_want [r0, (.s 0)]))]))
                         (.ops [.mk .ps .no (.e (.call n_parse_parser_fail [r0, (.c (.int .i64 (.ofNat 21) 0))]))]))))))))))))))))))))))
    (.seq (.ops [.mk .ps .no (.n (.ldn 11 r4)),
      .mk .no .no (.e (.st 11 r2 (.s 0)))])
     .ret)))))
 [.celln q2 11] .no 0
/- (*kiln/parse.parser).member -/
def af_parse_parser_member : AF := .mk 3 (.seq (.ops [.mk (.to q4) .no (.a (.box r1)),
  .mk (.to q5) .no (.a (.box r2)),
  .mk (.to q6) .no (.a (.alloc 11 [[(.int .i64 (.ofNat 0) 0), (.int .i64 (.ofNat 0) 0), (.int .i64 (.ofNat 0) 0), (.int .i64 (.ofNat 0) 0), (.str 0 0), (.str 0 0), (.bool false), .nils, (.str 0 0), (.bool false), (.str 0 0)]]))])
 (.seq (.seq (.ops [.mk (.to q9) .no (.e (.call n_parse_parser_take [r0, (.c (.str 6 114849160783212))]))])
   (.cond r9 (.seq (.ops [.mk .ps .no (.n (.ldn 2 r5)),
      .mk .ps .no (.n (.ldn 11 r4)),
      .mk .ps .no (.a (.bslice 11 1 [(.int .i64 (.ofNat 0) 0), (.int .i64 (.ofNat 0) 0), (.int .i64 (.ofNat 0) 0), (.int .i64 (.ofNat 0) 0), (.str 0 0), (.str 0 0), (.bool false), .nils, (.str 0 0), (.bool false), (.str 0 0)] [(0, (.s 0))])),
      .mk .ps .no (.n (.build [(.int .i64 (.ofNat 0) 0), (.int .i64 (.ofNat 0) 0), (.int .i64 (.ofNat 0) 0), (.int .i64 (.ofNat 0) 0), (.str 0 0), (.str 0 0), (.bool false), .nils, (.str 0 0), (.bool false), (.str 0 0)] [(0, 1, (.c (.int .i64 (.ofNat 13) 0))), (1, 2, (.s 2)), (7, 1, (.s 0))])),
      .mk .no .no (.e (.st 11 r6 (.s 0)))])
     .ret)
    .skip))
  (.seq (.ops [.mk .ps .no (.e (.call n_parse_parser_name [r0, (.c (.int .i64 (.ofNat 3) 0))])),
    .mk (.to q7) .no (.n (.mv (.s 0)))])
   (.seq (.seq (.ops [.mk .ps .no (.a (.bslice 1 1 [(.str 0 0)] [(0, (.c (.str 1 40)))])),
      .mk .ps .no (.e (.call n_parse_parser_is [r0, (.s 0)])),
      .mk (.to q19) .no (.n (.not (.s 0)))])
     (.cond r19 (.seq (.ops [.mk .ps .no (.n (.ldn 2 r5)),
        .mk .ps .no (.n (.ldn 11 r4)),
        .mk .ps .no (.a (.bslice 11 1 [(.int .i64 (.ofNat 0) 0), (.int .i64 (.ofNat 0) 0), (.int .i64 (.ofNat 0) 0), (.int .i64 (.ofNat 0) 0), (.str 0 0), (.str 0 0), (.bool false), .nils, (.str 0 0), (.bool false), (.str 0 0)] [(0, (.s 0))])),
        .mk .ps .no (.n (.build [(.int .i64 (.ofNat 0) 0), (.int .i64 (.ofNat 0) 0), (.int .i64 (.ofNat 0) 0), (.int .i64 (.ofNat 0) 0), (.str 0 0), (.str 0 0), (.bool false), .nils, (.str 0 0), (.bool false), (.str 0 0)] [(0, 1, (.c (.int .i64 (.ofNat 7) 0))), (1, 2, (.s 2)), (4, 1, r7), (7, 1, (.s 0))])),
        .mk .no .no (.e (.st 11 r6 (.s 0)))])
       .ret)
      .skip))
    (.seq (.reg [.op (.mk (.to q25) .no (.n (.ldn 2 r5))),
      .op (.mk (.to q26) .no (.n (.mv r7))),
      .op (.mk (.to q27) .no (.n (.ldn 11 r4))),
      .op (.mk (.to q28) .no (.a (.bslice 11 1 [(.int .i64 (.ofNat 0) 0), (.int .i64 (.ofNat 0) 0), (.int .i64 (.ofNat 0) 0), (.int .i64 (.ofNat 0) 0), (.str 0 0), (.str 0 0), (.bool false), .nils, (.str 0 0), (.bool false), (.str 0 0)] [(0, r27)]))),
      .op (.mk (.to q29) .no (.n (.mv r0))),
      .op (.mk (.to q30) .no (.e (.call n_parse_parser_args [r29]))),
      .re q25 .no (.ldn 2 r5),
      .re q27 .no (.ldn 11 r4),
      .op (.mk (.to q31) .no (.e (.app 11 136 r28 r30))),
      .re q25 .no (.ldn 2 r5),
      .op (.mk (.to q32) .no (.n (.build [(.int .i64 (.ofNat 0) 0), (.int .i64 (.ofNat 0) 0), (.int .i64 (.ofNat 0) 0), (.int .i64 (.ofNat 0) 0), (.str 0 0), (.str 0 0), (.bool false), .nils, (.str 0 0), (.bool false), (.str 0 0)] [(0, 1, (.c (.int .i64 (.ofNat 8) 0))), (1, 2, r25), (4, 1, r26), (7, 1, r31)]))),
      .op (.mk .no .no (.e (.st 11 r6 r32)))])
     .ret)))))
 [.celln q6 11] .no 0
/- (*kiln/parse.parser).args -/
def af_parse_parser_args : AF := .mk 1 (.seq (.ops [.mk (.to q2) .no (.n (.mv (.c .nils)))])
 (.seq (.ops [.mk (.to q3) .no (.n (.mv (.c .nils)))])
  (.seq (.ops [.mk .ps .no (.a (.bslice 1 1 [(.str 0 0)] [(0, (.c (.str 1 40)))])),
    .mk .ps .no (.e (.call n_parse_parser_want [r0, (.s 0)]))])
   (.seq (.block 0 (.loop (.seq (.seq (.ops [.mk .ps .no (.e (.call n_parse_parser_ok [r0])),
         .mk .ps (.on (.s 0) true) (.n (.mv r0)),
         .mk .ps (.on (.s 1) true) (.e (.call n_parse_parser_take [(.s 0), (.c (.str 1 41))])),
         .mk .ps (.on (.s 2) true) (.n (.not (.s 0))),
         .mk (.to q13) .no (.n (.pick (.s 3) (.s 0) (.c (.bool false))))])
        (.cond r13 .skip
         (.exit 0)))
       (.block 1 (.seq (.seq (.ops [.mk .ps .no (.n (.lenL r3)),
           .mk (.to q16) .no (.n (.bin .gtr (.s 0) (.c (.int .i64 (.ofNat 0) 0))))])
          (.cond r16 (.ops [.mk .ps .no (.a (.bslice 1 1 [(.str 0 0)] [(0, (.c (.str 1 44)))])),
            .mk .ps .no (.e (.call n_parse_parser_want [r0, (.s 0)]))])
           .skip))
         (.seq (.ops [.mk .ps .no (.e (.call n_parse_parser_expr [r0])),
           .mk .ps .no (.a (.bslice 11 1 [(.int .i64 (.ofNat 0) 0), (.int .i64 (.ofNat 0) 0), (.int .i64 (.ofNat 0) 0), (.int .i64 (.ofNat 0) 0), (.str 0 0), (.str 0 0), (.bool false), .nils, (.str 0 0), (.bool false), (.str 0 0)] [(0, (.s 0))])),
           .mk .ps .no (.e (.app 11 136 r3 (.s 0))),
           .mk (.to q3) .no (.n (.mv (.s 0)))])
          (.ops [.mk .ps .no (.n (.lenL r3)),
           .mk .ps .no (.e (.call n_parse_parser_many [r0, (.s 0)]))])))))))
    (.seq (.ops [.mk (.to q2) .no (.n (.mv r3))])
     .ret)))))
 [.tmp q2] .no 0
/- (kiln/ast.Type).Class -/
def af_ast_Type_Class : AF := .mk 1 (.seq (.ops [.mk (.to q1) .no (.a (.box r0)),
  .mk (.to q2) .no (.n (.mv (.c (.bool false))))])
 (.seq (.ops [.mk .ps .no (.n (.faddr 1 r1)),
   .mk .ps .no (.n (.ld1 (.s 0))),
   .mk .ps .no (.n (.not (.s 0))),
   .mk .ps (.on (.s 0) true) (.n (.faddr 0 r1)),
   .mk .ps (.on (.s 1) true) (.n (.ld1 (.s 0))),
   .mk .ps (.on (.s 2) true) (.n (.eq (.one .str) true (.s 0) (.c (.str 0 0)))),
   .mk .ps .no (.n (.pick (.s 3) (.s 0) (.c (.bool false)))),
   .mk .ps (.on (.s 0) true) (.n (.faddr 0 r1)),
   .mk .ps (.on (.s 1) true) (.n (.ld1 (.s 0))),
   .mk .ps (.on (.s 2) true) (.n (.idxS (.s 0) (.c (.int .i64 (.ofNat 0) 0)))),
   .mk .ps (.on (.s 3) true) (.n (.bin .geq (.s 0) (.c (.int .u8 (.ofNat 65) 0)))),
   .mk .ps .no (.n (.pick (.s 4) (.s 0) (.c (.bool false)))),
   .mk .ps (.on (.s 0) true) (.n (.faddr 0 r1)),
   .mk .ps (.on (.s 1) true) (.n (.ld1 (.s 0))),
   .mk .ps (.on (.s 2) true) (.n (.idxS (.s 0) (.c (.int .i64 (.ofNat 0) 0)))),
   .mk .ps (.on (.s 3) true) (.n (.bin .leq (.s 0) (.c (.int .u8 (.ofNat 90) 0)))),
   .mk .ps .no (.n (.pick (.s 4) (.s 0) (.c (.bool false)))),
   .mk (.to q2) .no (.n (.mv (.s 0)))])
  .ret))
 [.tmp q2] .no 0
def F : T AF := (.n none (.n none (.n none (.n none (.n none (.n none (.n (some af_lex_inner) .e .e) (.n (some af_parse_parser_down_1) .e .e)) (.n (some af_parse_parser_fail) .e (.n (some af_parse_parser_prim) .e .e))) (.n none (.n (some af_lex_lexer_next) (.n (some af_internal_strconv_log10Pow2) .e .e) (.n (some af_parse_parser_either) .e .e)) (.n none (.n (some af_parse_parser_stmt) .e .e) .e))) (.n none (.n (some af_kilnlaw06_ret) (.n none (.n (some af_lex_number) .e .e) .e) (.n (some af_internal_strconv_formatBits) (.n (some af_ast_Int) .e .e) .e)) (.n (some af_internal_strconv_Itoa) (.n (some af_parse_parser_typ) (.n (some af_math_bits_TrailingZeros) .e .e) (.n (some af_parse_parser_signs) .e .e)) (.n (some af_strings_HasPrefix) .e .e)))) (.n (some af_kilnlaw06_ParseElses) (.n (some af_kilnlaw06_head) (.n none (.n none (.n (some af_lex_words) .e .e) (.n (some af_parse_parser_choice) .e .e)) (.n (some af_internal_strconv_numDigits) (.n (some af_internal_stringslite_HasPrefix) .e .e) (.n (some af_parse_parser_args) .e .e))) (.n (some af_parse_parser_class) (.n (some af_parse_parser_name) (.n (some af_internal_strconv_bool2_int) .e .e) (.n (some af_parse_parser_compared) .e .e)) (.n none (.n (some af_math_bits_TrailingZeros64) .e .e) .e))) (.n (some af_strconv_Itoa) (.n none (.n none (.n (some af_parse_parser_base) .e .e) .e) (.n none (.n (some af_ast_Of) .e .e) .e)) (.n (some af_internal_strconv_FormatInt) (.n (some af_parse_parser_is) .e (.n (some af_parse_parser_unary) .e .e)) (.n (some af_lex_great) .e .e))))) (.n none (.n none (.n none (.n none (.n none (.n (some af_lex_small) .e .e) (.n (some af_parse_parser_expr) .e .e)) (.n (some af_internal_strconv_small) .e (.n (some af_parse_parser_member) .e .e))) (.n (some af_lex_All) (.n (some af_parse_parser_want) (.n (some af_math_bits_Len64) .e .e) (.n (some af_parse_parser_expr_1) .e .e)) (.n none (.n (some af_math_bits_TrailingZeros32) .e .e) .e))) (.n none (.n none (.n none (.n (some af_parse_parser_next) .e .e) .e) (.n none (.n (some af_ast_Bool) .e .e) .e)) (.n none (.n (some af_parse_parser_many) .e (.n (some af_parse_parser_compared_1_1) .e .e)) (.n (some af_strings_IndexByte) .e .e)))) (.n none (.n (some af_parse_Class) (.n none (.n none (.n (some af_lex_digit) .e .e) (.n (some af_parse_parser_plain) .e .e)) (.n (some af_internal_strconv_formatBase10) (.n (some af_internal_stringslite_IndexByte) .e .e) (.n (some af_ast_Type_Class) .e .e))) (.n (some af_parse_parser_ok) (.n (some af_parse_parser_take) (.n (some af_internal_strconv_isPowerOfTwo) .e .e) (.n (some af_parse_parser_compared_1) .e .e)) (.n (some af_lex_lexer_step) .e .e))) (.n none (.n none (.n (some af_lex_lexer_skip) (.n (some af_parse_parser_block) .e .e) .e) (.n none (.n (some af_parse_parser_down) .e .e) .e)) (.n none (.n (some af_parse_parser_method) .e (.n (some af_parse_parser_parts) .e .e)) (.n (some af_lex_lexer_run) .e .e))))))
theorem at_kilnlaw06_ParseElses : T.get F n_kilnlaw06_ParseElses = some af_kilnlaw06_ParseElses := by kernel_rfl
theorem at_kilnlaw06_head : T.get F n_kilnlaw06_head = some af_kilnlaw06_head := by kernel_rfl
theorem at_parse_Class : T.get F n_parse_Class = some af_parse_Class := by kernel_rfl
theorem at_strconv_Itoa : T.get F n_strconv_Itoa = some af_strconv_Itoa := by kernel_rfl
theorem at_kilnlaw06_ret : T.get F n_kilnlaw06_ret = some af_kilnlaw06_ret := by kernel_rfl
theorem at_lex_All : T.get F n_lex_All = some af_lex_All := by kernel_rfl
theorem at_parse_parser_class : T.get F n_parse_parser_class = some af_parse_parser_class := by kernel_rfl
theorem at_parse_parser_ok : T.get F n_parse_parser_ok = some af_parse_parser_ok := by kernel_rfl
theorem at_internal_strconv_Itoa : T.get F n_internal_strconv_Itoa = some af_internal_strconv_Itoa := by kernel_rfl
theorem at_internal_strconv_FormatInt : T.get F n_internal_strconv_FormatInt = some af_internal_strconv_FormatInt := by kernel_rfl
theorem at_lex_lexer_skip : T.get F n_lex_lexer_skip = some af_lex_lexer_skip := by kernel_rfl
theorem at_lex_lexer_next : T.get F n_lex_lexer_next = some af_lex_lexer_next := by kernel_rfl
theorem at_parse_parser_want : T.get F n_parse_parser_want = some af_parse_parser_want := by kernel_rfl
theorem at_parse_parser_name : T.get F n_parse_parser_name = some af_parse_parser_name := by kernel_rfl
theorem at_parse_parser_take : T.get F n_parse_parser_take = some af_parse_parser_take := by kernel_rfl
theorem at_parse_parser_typ : T.get F n_parse_parser_typ = some af_parse_parser_typ := by kernel_rfl
theorem at_parse_parser_many : T.get F n_parse_parser_many = some af_parse_parser_many := by kernel_rfl
theorem at_parse_parser_is : T.get F n_parse_parser_is = some af_parse_parser_is := by kernel_rfl
theorem at_parse_parser_method : T.get F n_parse_parser_method = some af_parse_parser_method := by kernel_rfl
theorem at_parse_parser_fail : T.get F n_parse_parser_fail = some af_parse_parser_fail := by kernel_rfl
theorem at_internal_strconv_small : T.get F n_internal_strconv_small = some af_internal_strconv_small := by kernel_rfl
theorem at_internal_strconv_numDigits : T.get F n_internal_strconv_numDigits = some af_internal_strconv_numDigits := by kernel_rfl
theorem at_internal_strconv_formatBase10 : T.get F n_internal_strconv_formatBase10 = some af_internal_strconv_formatBase10 := by kernel_rfl
theorem at_internal_strconv_formatBits : T.get F n_internal_strconv_formatBits = some af_internal_strconv_formatBits := by kernel_rfl
theorem at_lex_lexer_step : T.get F n_lex_lexer_step = some af_lex_lexer_step := by kernel_rfl
theorem at_strings_HasPrefix : T.get F n_strings_HasPrefix = some af_strings_HasPrefix := by kernel_rfl
theorem at_strings_IndexByte : T.get F n_strings_IndexByte = some af_strings_IndexByte := by kernel_rfl
theorem at_lex_great : T.get F n_lex_great = some af_lex_great := by kernel_rfl
theorem at_lex_lexer_run : T.get F n_lex_lexer_run = some af_lex_lexer_run := by kernel_rfl
theorem at_lex_inner : T.get F n_lex_inner = some af_lex_inner := by kernel_rfl
theorem at_lex_small : T.get F n_lex_small = some af_lex_small := by kernel_rfl
theorem at_lex_words : T.get F n_lex_words = some af_lex_words := by kernel_rfl
theorem at_lex_digit : T.get F n_lex_digit = some af_lex_digit := by kernel_rfl
theorem at_lex_number : T.get F n_lex_number = some af_lex_number := by kernel_rfl
theorem at_parse_parser_next : T.get F n_parse_parser_next = some af_parse_parser_next := by kernel_rfl
theorem at_parse_parser_base : T.get F n_parse_parser_base = some af_parse_parser_base := by kernel_rfl
theorem at_parse_parser_block : T.get F n_parse_parser_block = some af_parse_parser_block := by kernel_rfl
theorem at_internal_strconv_log10Pow2 : T.get F n_internal_strconv_log10Pow2 = some af_internal_strconv_log10Pow2 := by kernel_rfl
theorem at_math_bits_Len64 : T.get F n_math_bits_Len64 = some af_math_bits_Len64 := by kernel_rfl
theorem at_internal_strconv_bool2_int : T.get F n_internal_strconv_bool2_int = some af_internal_strconv_bool2_int := by kernel_rfl
theorem at_internal_strconv_isPowerOfTwo : T.get F n_internal_strconv_isPowerOfTwo = some af_internal_strconv_isPowerOfTwo := by kernel_rfl
theorem at_math_bits_TrailingZeros : T.get F n_math_bits_TrailingZeros = some af_math_bits_TrailingZeros := by kernel_rfl
theorem at_internal_stringslite_HasPrefix : T.get F n_internal_stringslite_HasPrefix = some af_internal_stringslite_HasPrefix := by kernel_rfl
theorem at_internal_stringslite_IndexByte : T.get F n_internal_stringslite_IndexByte = some af_internal_stringslite_IndexByte := by kernel_rfl
theorem at_ast_Int : T.get F n_ast_Int = some af_ast_Int := by kernel_rfl
theorem at_ast_Bool : T.get F n_ast_Bool = some af_ast_Bool := by kernel_rfl
theorem at_ast_Of : T.get F n_ast_Of = some af_ast_Of := by kernel_rfl
theorem at_parse_parser_down : T.get F n_parse_parser_down = some af_parse_parser_down := by kernel_rfl
theorem at_parse_parser_stmt : T.get F n_parse_parser_stmt = some af_parse_parser_stmt := by kernel_rfl
theorem at_math_bits_TrailingZeros32 : T.get F n_math_bits_TrailingZeros32 = some af_math_bits_TrailingZeros32 := by kernel_rfl
theorem at_math_bits_TrailingZeros64 : T.get F n_math_bits_TrailingZeros64 = some af_math_bits_TrailingZeros64 := by kernel_rfl
theorem at_parse_parser_down_1 : T.get F n_parse_parser_down_1 = some af_parse_parser_down_1 := by kernel_rfl
theorem at_parse_parser_expr : T.get F n_parse_parser_expr = some af_parse_parser_expr := by kernel_rfl
theorem at_parse_parser_choice : T.get F n_parse_parser_choice = some af_parse_parser_choice := by kernel_rfl
theorem at_parse_parser_plain : T.get F n_parse_parser_plain = some af_parse_parser_plain := by kernel_rfl
theorem at_parse_parser_either : T.get F n_parse_parser_either = some af_parse_parser_either := by kernel_rfl
theorem at_parse_parser_expr_1 : T.get F n_parse_parser_expr_1 = some af_parse_parser_expr_1 := by kernel_rfl
theorem at_parse_parser_compared : T.get F n_parse_parser_compared = some af_parse_parser_compared := by kernel_rfl
theorem at_parse_parser_compared_1 : T.get F n_parse_parser_compared_1 = some af_parse_parser_compared_1 := by kernel_rfl
theorem at_parse_parser_signs : T.get F n_parse_parser_signs = some af_parse_parser_signs := by kernel_rfl
theorem at_parse_parser_compared_1_1 : T.get F n_parse_parser_compared_1_1 = some af_parse_parser_compared_1_1 := by kernel_rfl
theorem at_parse_parser_unary : T.get F n_parse_parser_unary = some af_parse_parser_unary := by kernel_rfl
theorem at_parse_parser_parts : T.get F n_parse_parser_parts = some af_parse_parser_parts := by kernel_rfl
theorem at_parse_parser_prim : T.get F n_parse_parser_prim = some af_parse_parser_prim := by kernel_rfl
theorem at_parse_parser_member : T.get F n_parse_parser_member = some af_parse_parser_member := by kernel_rfl
theorem at_parse_parser_args : T.get F n_parse_parser_args = some af_parse_parser_args := by kernel_rfl
theorem at_ast_Type_Class : T.get F n_ast_Type_Class = some af_ast_Type_Class := by kernel_rfl
end Go.P2

