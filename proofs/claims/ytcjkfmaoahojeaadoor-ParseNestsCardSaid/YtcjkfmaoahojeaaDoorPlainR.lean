/- Part of a proof: texts PQSi PQSt of the engine and what is proved with it; nothing is assumed. -/
import Derived.Test.YtcjkfmaoahojeaaDoorPlain
import Derived.Test.YtcjkfmaoahojeaaDoorCode
import Derived.Test.YtcjkfmaoahojeaaDoorEngE
set_option linter.unusedVariables false
set_option linter.unusedSimpArgs false
/- They are right: printed by program. -/
namespace Go.PQ
open Go.Eng
set_option maxRecDepth 100000
inductive Ok1 (G : Roms) (n : Nat) (s : SF) : Prop where
  | mk {af : AF} (h : T.get F n = some af) (o : SfOk G af s) : Ok1 G n s
noncomputable def an_kilnlaw06_ParseNests (lp : LpT) (G : Roms) (call : CallT) (k : KV) : An := .n
theorem si_kilnlaw06_ParseNests {lp : LpT} (hL : LpOk lp) (G : Roms) : Ok1 G 4 (ar2 (s_kilnlaw06_ParseNests lp G)) :=
  .mk at_kilnlaw06_ParseNests <| sf2 hL (an := an_kilnlaw06_ParseNests lp G) (fun _ _ => obs (by kernel_rfl)) fun call a0 a1 H n k => by kernel_rfl
noncomputable def an_kilnlaw06_head (lp : LpT) (G : Roms) (call : CallT) (k : KV) : An := .n
theorem si_kilnlaw06_head {lp : LpT} (hL : LpOk lp) (G : Roms) : Ok1 G 9 (ar0 (s_kilnlaw06_head lp G)) :=
  .mk at_kilnlaw06_head <| sf0 hL (an := an_kilnlaw06_head lp G) (fun _ _ => obs (by kernel_rfl)) fun call  H n k => by kernel_rfl
noncomputable def an_parse_Class (lp : LpT) (G : Roms) (call : CallT) (k : KV) : An := .n
theorem si_parse_Class {lp : LpT} (hL : LpOk lp) (G : Roms) : Ok1 G 10 (ar1 (s_parse_Class lp G)) :=
  .mk at_parse_Class <| sf1 hL (an := an_parse_Class lp G) (fun _ _ => obs (by kernel_rfl)) fun call a0 H n k => by kernel_rfl
noncomputable def an_kilnlaw06_ParseNests_1 (lp : LpT) (G : Roms) (call : CallT) (k : KV) : An := (.s .n (.s .n (.j (fun R=>s_kilnlaw06_ParseNests_1_j1 lp G call k (rg R q4)) (.s .n (.b (.l _ (s_kilnlaw06_ParseNests_1_l2b lp G call k) (fun R H n=>(rg R q0, rg R q1, rg R q4, rg R q5, H, n)) fun ih2=>.n))) .n)))
theorem si_kilnlaw06_ParseNests_1 {lp : LpT} (hL : LpOk lp) (G : Roms) : Ok1 G 11 (ar2 (s_kilnlaw06_ParseNests_1 lp G)) :=
  .mk at_kilnlaw06_ParseNests_1 <| sf2 hL (an := an_kilnlaw06_ParseNests_1 lp G) (fun _ _ => obs (by kernel_rfl)) fun call a0 a1 H n k => by kernel_rfl
noncomputable def an_kilnlaw06_ParseNests_2 (lp : LpT) (G : Roms) (call : CallT) (k : KV) : An := .n
theorem si_kilnlaw06_ParseNests_2 {lp : LpT} (hL : LpOk lp) (G : Roms) : Ok1 G 12 (ar1 (s_kilnlaw06_ParseNests_2 lp G)) :=
  .mk at_kilnlaw06_ParseNests_2 <| sf1 hL (an := an_kilnlaw06_ParseNests_2 lp G) (fun _ _ => obs (by kernel_rfl)) fun call a0 H n k => by kernel_rfl
noncomputable def an_kilnlaw06_ret (lp : LpT) (G : Roms) (call : CallT) (k : KV) : An := .n
theorem si_kilnlaw06_ret {lp : LpT} (hL : LpOk lp) (G : Roms) : Ok1 G 19 (ar1 (s_kilnlaw06_ret lp G)) :=
  .mk at_kilnlaw06_ret <| sf1 hL (an := an_kilnlaw06_ret lp G) (fun _ _ => obs (by kernel_rfl)) fun call a0 H n k => by kernel_rfl
noncomputable def an_lex_All (lp : LpT) (G : Roms) (call : CallT) (k : KV) : An := (.s .n (.s .n (.s .n (.s .n (.b (.l _ (s_lex_All_l12b lp G call k) (fun R H n=>(rg R q3, rg R q4, rg R q5, H, n)) fun ih12=>.n))))))
theorem si_lex_All {lp : LpT} (hL : LpOk lp) (G : Roms) : Ok1 G 24 (ar1 (s_lex_All lp G)) :=
  .mk at_lex_All <| sf1 hL (an := an_lex_All lp G) (fun _ _ => obs (by kernel_rfl)) fun call a0 H n k => by kernel_rfl
noncomputable def an_parse_parser_class (lp : LpT) (G : Roms) (call : CallT) (k : KV) : An := (.s .n (.s .n (.s .n (.s .n (.j (fun R=>s_parse_parser_class_j16 lp G call k (rg R q0) (rg R q2) (rg R q3)) .n (.s .n (.j (fun R=>s_parse_parser_class_j19 lp G call k (rg R q0) (rg R q2) (rg R q3)) (.b (.l _ (s_parse_parser_class_l34b lp G call k) (fun R H n=>(rg R q0, rg R q2, rg R q3, H, n)) fun ih34=>.n)) (.j (fun R=>s_parse_parser_class_j20 lp G call k (rg R q2) (rg R q3)) .n .n))))))))
theorem si_parse_parser_class {lp : LpT} (hL : LpOk lp) (G : Roms) : Ok1 G 25 (ar1 (s_parse_parser_class lp G)) :=
  .mk at_parse_parser_class <| sf1 hL (an := an_parse_parser_class lp G) (fun _ _ => obs (by kernel_rfl)) fun call a0 H n k => by kernel_rfl
noncomputable def an_parse_parser_ok (lp : LpT) (G : Roms) (call : CallT) (k : KV) : An := .n
theorem si_parse_parser_ok {lp : LpT} (hL : LpOk lp) (G : Roms) : Ok1 G 26 (ar1 (s_parse_parser_ok lp G)) :=
  .mk at_parse_parser_ok <| sf1 hL (an := an_parse_parser_ok lp G) (fun _ _ => obs (by kernel_rfl)) fun call a0 H n k => by kernel_rfl
noncomputable def an_lex_lexer_skip (lp : LpT) (G : Roms) (call : CallT) (k : KV) : An := (.b (.l _ (s_lex_lexer_skip_l1b lp G call k) (fun R H n=>(rg R q0, H, n)) fun ih1=>(.s .n (.b (.s .n (.b (.s .n (.c .n (.s .n (.c (.s .n (.j (fun R=>s_lex_lexer_skip_j44 lp G call k ih1 (rg R q0) (rg R q3)) .n .n)) .n))))))))))
theorem si_lex_lexer_skip {lp : LpT} (hL : LpOk lp) (G : Roms) : Ok1 G 38 (ar1 (s_lex_lexer_skip lp G)) :=
  .mk at_lex_lexer_skip <| sf1 hL (an := an_lex_lexer_skip lp G) (fun _ _ => obs (by kernel_rfl)) fun call a0 H n k => by kernel_rfl
noncomputable def an_lex_lexer_next (lp : LpT) (G : Roms) (call : CallT) (k : KV) : An := (.s .n (.s .n (.s .n (.s .n (.j (fun R=>s_lex_lexer_next_j25 lp G call k (rg R q0) (rg R q2) (rg R q4)) (.b (.s .n (.c .n (.s .n (.c .n (.s .n (.c .n (.s .n (.b (.l _ (s_lex_lexer_next_l81b lp G call k) (fun R H n=>(rg R q0, rg R q2, rg R q4, rg R q34, rg R q35, H, n)) fun ih81=>.n)))))))))) .n)))))
theorem si_lex_lexer_next {lp : LpT} (hL : LpOk lp) (G : Roms) : Ok1 G 39 (ar1 (s_lex_lexer_next lp G)) :=
  .mk at_lex_lexer_next <| sf1 hL (an := an_lex_lexer_next lp G) (fun _ _ => obs (by kernel_rfl)) fun call a0 H n k => by kernel_rfl
noncomputable def an_parse_parser_want (lp : LpT) (G : Roms) (call : CallT) (k : KV) : An := (.s .n (.b (.l _ (s_parse_parser_want_l2b lp G call k) (fun R H n=>(rg R q0, rg R q6, rg R q7, rg R q8, H, n)) fun ih2=>(.s .n (.s .n (.j (fun R=>s_parse_parser_want_j4 lp G call k ih2 (rg R q0) (rg R q6) (rg R q7) (rg R q8)) .n .n))))))
theorem si_parse_parser_want {lp : LpT} (hL : LpOk lp) (G : Roms) : Ok1 G 40 (ar2 (s_parse_parser_want lp G)) :=
  .mk at_parse_parser_want <| sf2 hL (an := an_parse_parser_want lp G) (fun _ _ => obs (by kernel_rfl)) fun call a0 a1 H n k => by kernel_rfl
noncomputable def an_parse_parser_name (lp : LpT) (G : Roms) (call : CallT) (k : KV) : An := .n
theorem si_parse_parser_name {lp : LpT} (hL : LpOk lp) (G : Roms) : Ok1 G 41 (ar2 (s_parse_parser_name lp G)) :=
  .mk at_parse_parser_name <| sf2 hL (an := an_parse_parser_name lp G) (fun _ _ => obs (by kernel_rfl)) fun call a0 a1 H n k => by kernel_rfl
noncomputable def an_parse_parser_take (lp : LpT) (G : Roms) (call : CallT) (k : KV) : An := .n
theorem si_parse_parser_take {lp : LpT} (hL : LpOk lp) (G : Roms) : Ok1 G 42 (ar2 (s_parse_parser_take lp G)) :=
  .mk at_parse_parser_take <| sf2 hL (an := an_parse_parser_take lp G) (fun _ _ => obs (by kernel_rfl)) fun call a0 a1 H n k => by kernel_rfl
noncomputable def an_parse_parser_typ (lp : LpT) (G : Roms) (call : CallT) (k : KV) : An := (.s .n (.s .n (.j (fun R=>s_parse_parser_typ_j5 lp G call k (rg R q2) (rg R q3)) .n .n)))
theorem si_parse_parser_typ {lp : LpT} (hL : LpOk lp) (G : Roms) : Ok1 G 43 (ar1 (s_parse_parser_typ lp G)) :=
  .mk at_parse_parser_typ <| sf1 hL (an := an_parse_parser_typ lp G) (fun _ _ => obs (by kernel_rfl)) fun call a0 H n k => by kernel_rfl
noncomputable def an_parse_parser_many (lp : LpT) (G : Roms) (call : CallT) (k : KV) : An := .n
theorem si_parse_parser_many {lp : LpT} (hL : LpOk lp) (G : Roms) : Ok1 G 44 (ar2 (s_parse_parser_many lp G)) :=
  .mk at_parse_parser_many <| sf2 hL (an := an_parse_parser_many lp G) (fun _ _ => obs (by kernel_rfl)) fun call a0 a1 H n k => by kernel_rfl
noncomputable def an_parse_parser_is (lp : LpT) (G : Roms) (call : CallT) (k : KV) : An := (.s .n (.j (fun R=>s_parse_parser_is_j1 lp G call k) (.s .n (.b (.l _ (s_parse_parser_is_l3b lp G call k) (fun R H n=>(rg R q0, rg R q7, rg R q8, rg R q9, H, n)) fun ih3=>.n))) .n))
theorem si_parse_parser_is {lp : LpT} (hL : LpOk lp) (G : Roms) : Ok1 G 45 (ar2 (s_parse_parser_is lp G)) :=
  .mk at_parse_parser_is <| sf2 hL (an := an_parse_parser_is lp G) (fun _ _ => obs (by kernel_rfl)) fun call a0 a1 H n k => by kernel_rfl
noncomputable def an_parse_parser_method (lp : LpT) (G : Roms) (call : CallT) (k : KV) : An := (.s .n (.s .n (.s .n (.s .n (.s .n (.s .n (.s .n (.j (fun R=>s_parse_parser_method_j25 lp G call k (rg R q0) (rg R q2) (rg R q4)) (.b (.l _ (s_parse_parser_method_l31b lp G call k) (fun R H n=>(rg R q0, rg R q2, rg R q4, H, n)) fun ih31=>(.s .n (.b (.j (fun R=>s_parse_parser_method_j37 lp G call k ih31 (rg R q0) (rg R q2) (rg R q4)) .n .n))))) .n))))))))
theorem si_parse_parser_method {lp : LpT} (hL : LpOk lp) (G : Roms) : Ok1 G 46 (ar1 (s_parse_parser_method lp G)) :=
  .mk at_parse_parser_method <| sf1 hL (an := an_parse_parser_method lp G) (fun _ _ => obs (by kernel_rfl)) fun call a0 H n k => by kernel_rfl
noncomputable def an_parse_parser_fail (lp : LpT) (G : Roms) (call : CallT) (k : KV) : An := .n
theorem si_parse_parser_fail {lp : LpT} (hL : LpOk lp) (G : Roms) : Ok1 G 47 (ar2 (s_parse_parser_fail lp G)) :=
  .mk at_parse_parser_fail <| sf2 hL (an := an_parse_parser_fail lp G) (fun _ _ => obs (by kernel_rfl)) fun call a0 a1 H n k => by kernel_rfl
noncomputable def an_lex_lexer_step (lp : LpT) (G : Roms) (call : CallT) (k : KV) : An := (.s .n (.b (.l _ (s_lex_lexer_step_l1b lp G call k) (fun R H n=>(rg R q0, rg R q4, rg R q5, H, n)) fun ih1=>(.s .n (.s .n (.s (.b (.s .n (.j (fun R=>s_lex_lexer_step_j12 lp G call k ih1 (rg R q0) (rg R q4) (rg R q5)) .n .n))) .n))))))
theorem si_lex_lexer_step {lp : LpT} (hL : LpOk lp) (G : Roms) : Ok1 G 58 (ar2 (s_lex_lexer_step lp G)) :=
  .mk at_lex_lexer_step <| sf2 hL (an := an_lex_lexer_step lp G) (fun _ _ => obs (by kernel_rfl)) fun call a0 a1 H n k => by kernel_rfl
noncomputable def an_strings_HasPrefix (lp : LpT) (G : Roms) (call : CallT) (k : KV) : An := .n
theorem si_strings_HasPrefix {lp : LpT} (hL : LpOk lp) (G : Roms) : Ok1 G 59 (ar2 (s_strings_HasPrefix lp G)) :=
  .mk at_strings_HasPrefix <| sf2 hL (an := an_strings_HasPrefix lp G) (fun _ _ => obs (by kernel_rfl)) fun call a0 a1 H n k => by kernel_rfl
noncomputable def an_strings_IndexByte (lp : LpT) (G : Roms) (call : CallT) (k : KV) : An := .n
theorem si_strings_IndexByte {lp : LpT} (hL : LpOk lp) (G : Roms) : Ok1 G 60 (ar2 (s_strings_IndexByte lp G)) :=
  .mk at_strings_IndexByte <| sf2 hL (an := an_strings_IndexByte lp G) (fun _ _ => obs (by kernel_rfl)) fun call a0 a1 H n k => by kernel_rfl
noncomputable def an_lex_great (lp : LpT) (G : Roms) (call : CallT) (k : KV) : An := .n
theorem si_lex_great {lp : LpT} (hL : LpOk lp) (G : Roms) : Ok1 G 61 (ar1 (s_lex_great lp G)) :=
  .mk at_lex_great <| sf1 hL (an := an_lex_great lp G) (fun _ _ => obs (by kernel_rfl)) fun call a0 H n k => by kernel_rfl
noncomputable def an_lex_lexer_run (lp : LpT) (G : Roms) (call : CallT) (k : KV) : An := (.s .n (.s .n (.j (fun R=>s_lex_lexer_run_j1 lp G call k (rg R q0) (rg R q5)) (.b (.l _ (s_lex_lexer_run_l13b lp G call k) (fun R H n=>(rg R q0, rg R q1, rg R q5, H, n)) fun ih13=>.n)) .n)))
theorem si_lex_lexer_run {lp : LpT} (hL : LpOk lp) (G : Roms) : Ok1 G 62 (ar2 (s_lex_lexer_run lp G)) :=
  .mk at_lex_lexer_run <| sf2 hL (an := an_lex_lexer_run lp G) (fun _ _ => obs (by kernel_rfl)) fun call a0 a1 H n k => by kernel_rfl
noncomputable def an_lex_inner (lp : LpT) (G : Roms) (call : CallT) (k : KV) : An := .n
theorem si_lex_inner {lp : LpT} (hL : LpOk lp) (G : Roms) : Ok1 G 63 (ar1 (s_lex_inner lp G)) :=
  .mk at_lex_inner <| sf1 hL (an := an_lex_inner lp G) (fun _ _ => obs (by kernel_rfl)) fun call a0 H n k => by kernel_rfl
noncomputable def an_lex_small (lp : LpT) (G : Roms) (call : CallT) (k : KV) : An := .n
theorem si_lex_small {lp : LpT} (hL : LpOk lp) (G : Roms) : Ok1 G 64 (ar1 (s_lex_small lp G)) :=
  .mk at_lex_small <| sf1 hL (an := an_lex_small lp G) (fun _ _ => obs (by kernel_rfl)) fun call a0 H n k => by kernel_rfl
noncomputable def an_lex_words (lp : LpT) (G : Roms) (call : CallT) (k : KV) : An := (.s .n (.s (.s .n (.b (.j (fun R=>s_lex_words_j1 lp G call k (rg R q4)) .n .n))) .n))
theorem si_lex_words {lp : LpT} (hL : LpOk lp) (G : Roms) : Ok1 G 65 (ar1 (s_lex_words lp G)) :=
  .mk at_lex_words <| sf1 hL (an := an_lex_words lp G) (fun _ _ => obs (by kernel_rfl)) fun call a0 H n k => by kernel_rfl
noncomputable def an_lex_digit (lp : LpT) (G : Roms) (call : CallT) (k : KV) : An := .n
theorem si_lex_digit {lp : LpT} (hL : LpOk lp) (G : Roms) : Ok1 G 66 (ar1 (s_lex_digit lp G)) :=
  .mk at_lex_digit <| sf1 hL (an := an_lex_digit lp G) (fun _ _ => obs (by kernel_rfl)) fun call a0 H n k => by kernel_rfl
noncomputable def an_lex_number (lp : LpT) (G : Roms) (call : CallT) (k : KV) : An := (.s .n (.s .n (.j (fun R=>s_lex_number_j1 lp G call k (rg R q4)) (.s .n (.b (.l _ (s_lex_number_l4b lp G call k) (fun R H n=>(rg R q4, rg R q8, rg R q9, rg R q10, H, n)) fun ih4=>.n))) .n)))
theorem si_lex_number {lp : LpT} (hL : LpOk lp) (G : Roms) : Ok1 G 67 (ar1 (s_lex_number lp G)) :=
  .mk at_lex_number <| sf1 hL (an := an_lex_number lp G) (fun _ _ => obs (by kernel_rfl)) fun call a0 H n k => by kernel_rfl
noncomputable def an_parse_parser_next (lp : LpT) (G : Roms) (call : CallT) (k : KV) : An := (.s .n (.s .n (.j (fun R=>s_parse_parser_next_j9 lp G call k (rg R q2) (rg R q3)) .n .n)))
theorem si_parse_parser_next {lp : LpT} (hL : LpOk lp) (G : Roms) : Ok1 G 68 (ar1 (s_parse_parser_next lp G)) :=
  .mk at_parse_parser_next <| sf1 hL (an := an_parse_parser_next lp G) (fun _ _ => obs (by kernel_rfl)) fun call a0 H n k => by kernel_rfl
noncomputable def an_parse_parser_base (lp : LpT) (G : Roms) (call : CallT) (k : KV) : An := .n
theorem si_parse_parser_base {lp : LpT} (hL : LpOk lp) (G : Roms) : Ok1 G 69 (ar1 (s_parse_parser_base lp G)) :=
  .mk at_parse_parser_base <| sf1 hL (an := an_parse_parser_base lp G) (fun _ _ => obs (by kernel_rfl)) fun call a0 H n k => by kernel_rfl
noncomputable def an_parse_parser_block (lp : LpT) (G : Roms) (call : CallT) (k : KV) : An := (.s .n (.s .n (.s .n (.s .n (.j (fun R=>s_parse_parser_block_j5 lp G call k (rg R q3) (rg R q22)) (.b (.l _ (s_parse_parser_block_l6b lp G call k) (fun R H n=>(rg R q0, rg R q3, rg R q22, H, n)) fun ih6=>.n)) .n)))))
theorem si_parse_parser_block {lp : LpT} (hL : LpOk lp) (G : Roms) : Ok1 G 70 (ar1 (s_parse_parser_block lp G)) :=
  .mk at_parse_parser_block <| sf1 hL (an := an_parse_parser_block lp G) (fun _ _ => obs (by kernel_rfl)) fun call a0 H n k => by kernel_rfl
noncomputable def an_internal_stringslite_HasPrefix (lp : LpT) (G : Roms) (call : CallT) (k : KV) : An := .n
theorem si_internal_stringslite_HasPrefix {lp : LpT} (hL : LpOk lp) (G : Roms) : Ok1 G 81 (ar2 (s_internal_stringslite_HasPrefix lp G)) :=
  .mk at_internal_stringslite_HasPrefix <| sf2 hL (an := an_internal_stringslite_HasPrefix lp G) (fun _ _ => obs (by kernel_rfl)) fun call a0 a1 H n k => by kernel_rfl
noncomputable def an_internal_stringslite_IndexByte (lp : LpT) (G : Roms) (call : CallT) (k : KV) : An := .n
theorem si_internal_stringslite_IndexByte {lp : LpT} (hL : LpOk lp) (G : Roms) : Ok1 G 82 (ar2 (s_internal_stringslite_IndexByte lp G)) :=
  .mk at_internal_stringslite_IndexByte <| sf2 hL (an := an_internal_stringslite_IndexByte lp G) (fun _ _ => obs (by kernel_rfl)) fun call a0 a1 H n k => by kernel_rfl
noncomputable def an_ast_Int (lp : LpT) (G : Roms) (call : CallT) (k : KV) : An := .n
theorem si_ast_Int {lp : LpT} (hL : LpOk lp) (G : Roms) : Ok1 G 83 (ar0 (s_ast_Int lp G)) :=
  .mk at_ast_Int <| sf0 hL (an := an_ast_Int lp G) (fun _ _ => obs (by kernel_rfl)) fun call  H n k => by kernel_rfl
noncomputable def an_ast_Bool (lp : LpT) (G : Roms) (call : CallT) (k : KV) : An := .n
theorem si_ast_Bool {lp : LpT} (hL : LpOk lp) (G : Roms) : Ok1 G 84 (ar0 (s_ast_Bool lp G)) :=
  .mk at_ast_Bool <| sf0 hL (an := an_ast_Bool lp G) (fun _ _ => obs (by kernel_rfl)) fun call  H n k => by kernel_rfl
noncomputable def an_ast_Of (lp : LpT) (G : Roms) (call : CallT) (k : KV) : An := .n
theorem si_ast_Of {lp : LpT} (hL : LpOk lp) (G : Roms) : Ok1 G 85 (ar1 (s_ast_Of lp G)) :=
  .mk at_ast_Of <| sf1 hL (an := an_ast_Of lp G) (fun _ _ => obs (by kernel_rfl)) fun call a0 H n k => by kernel_rfl
noncomputable def an_parse_parser_down (lp : LpT) (G : Roms) (call : CallT) (k : KV) : An := (.s .n (.j (fun R=>s_parse_parser_down_j2 lp G call k (rg R q1)) .n .n))
theorem si_parse_parser_down {lp : LpT} (hL : LpOk lp) (G : Roms) : Ok1 G 86 (ar1 (s_parse_parser_down lp G)) :=
  .mk at_parse_parser_down <| sf1 hL (an := an_parse_parser_down lp G) (fun _ _ => obs (by kernel_rfl)) fun call a0 H n k => by kernel_rfl
noncomputable def an_parse_parser_stmt (lp : LpT) (G : Roms) (call : CallT) (k : KV) : An := (.s .n (.s .n (.j (fun R=>s_parse_parser_stmt_j11 lp G call k (rg R q0) (rg R q2) (rg R q3)) .n .n)))
theorem si_parse_parser_stmt {lp : LpT} (hL : LpOk lp) (G : Roms) : Ok1 G 87 (ar1 (s_parse_parser_stmt lp G)) :=
  .mk at_parse_parser_stmt <| sf1 hL (an := an_parse_parser_stmt lp G) (fun _ _ => obs (by kernel_rfl)) fun call a0 H n k => by kernel_rfl
noncomputable def an_parse_parser_down_1 (lp : LpT) (G : Roms) (call : CallT) (k : KV) : An := .n
theorem si_parse_parser_down_1 {lp : LpT} (hL : LpOk lp) (G : Roms) : Ok1 G 95 (ar1 (s_parse_parser_down_1 lp G)) :=
  .mk at_parse_parser_down_1 <| sf1 hL (an := an_parse_parser_down_1 lp G) (fun _ _ => obs (by kernel_rfl)) fun call a0 H n k => by kernel_rfl
noncomputable def an_parse_parser_expr (lp : LpT) (G : Roms) (call : CallT) (k : KV) : An := .n
theorem si_parse_parser_expr {lp : LpT} (hL : LpOk lp) (G : Roms) : Ok1 G 96 (ar1 (s_parse_parser_expr lp G)) :=
  .mk at_parse_parser_expr <| sf1 hL (an := an_parse_parser_expr lp G) (fun _ _ => obs (by kernel_rfl)) fun call a0 H n k => by kernel_rfl
noncomputable def an_parse_parser_choice (lp : LpT) (G : Roms) (call : CallT) (k : KV) : An := (.s .n (.s .n (.s .n (.s .n (.s .n (.s .n (.j (fun R=>s_parse_parser_choice_j22 lp G call k (rg R q2) (rg R q3) (rg R q37)) .n .n)))))))
theorem si_parse_parser_choice {lp : LpT} (hL : LpOk lp) (G : Roms) : Ok1 G 97 (ar1 (s_parse_parser_choice lp G)) :=
  .mk at_parse_parser_choice <| sf1 hL (an := an_parse_parser_choice lp G) (fun _ _ => obs (by kernel_rfl)) fun call a0 H n k => by kernel_rfl
noncomputable def an_parse_parser_plain (lp : LpT) (G : Roms) (call : CallT) (k : KV) : An := (.s .n (.s .n (.s (.s .n (.c (.j (fun R=>s_parse_parser_plain_j15 lp G call k) .n .n) .n)) (.j (fun R=>s_parse_parser_plain_j24 lp G call k (rg R q0) (rg R q1)) .n .n))))
theorem si_parse_parser_plain {lp : LpT} (hL : LpOk lp) (G : Roms) : Ok1 G 98 (ar2 (s_parse_parser_plain lp G)) :=
  .mk at_parse_parser_plain <| sf2 hL (an := an_parse_parser_plain lp G) (fun _ _ => obs (by kernel_rfl)) fun call a0 a1 H n k => by kernel_rfl
noncomputable def an_parse_parser_either (lp : LpT) (G : Roms) (call : CallT) (k : KV) : An := (.s .n (.s .n (.j (fun R=>s_parse_parser_either_j5 lp G call k (rg R q8) (rg R q9)) (.b (.l _ (s_parse_parser_either_l8b lp G call k) (fun R H n=>(rg R q0, rg R q1, rg R q2, rg R q3, rg R q8, rg R q9, H, n)) fun ih8=>.n)) .n)))
theorem si_parse_parser_either {lp : LpT} (hL : LpOk lp) (G : Roms) : Ok1 G 103 (ar4 (s_parse_parser_either lp G)) :=
  .mk at_parse_parser_either <| sf4 hL (an := an_parse_parser_either lp G) (fun _ _ => obs (by kernel_rfl)) fun call a0 a1 a2 a3 H n k => by kernel_rfl
noncomputable def an_parse_parser_expr_1 (lp : LpT) (G : Roms) (call : CallT) (k : KV) : An := .n
theorem si_parse_parser_expr_1 {lp : LpT} (hL : LpOk lp) (G : Roms) : Ok1 G 104 (ar1 (s_parse_parser_expr_1 lp G)) :=
  .mk at_parse_parser_expr_1 <| sf1 hL (an := an_parse_parser_expr_1 lp G) (fun _ _ => obs (by kernel_rfl)) fun call a0 H n k => by kernel_rfl
noncomputable def an_parse_parser_compared (lp : LpT) (G : Roms) (call : CallT) (k : KV) : An := (.s .n (.s .n (.s .n (.j (fun R=>s_parse_parser_compared_j6 lp G call k (rg R q2) (rg R q4)) .n .n))))
theorem si_parse_parser_compared {lp : LpT} (hL : LpOk lp) (G : Roms) : Ok1 G 105 (ar1 (s_parse_parser_compared lp G)) :=
  .mk at_parse_parser_compared <| sf1 hL (an := an_parse_parser_compared lp G) (fun _ _ => obs (by kernel_rfl)) fun call a0 H n k => by kernel_rfl
noncomputable def an_parse_parser_compared_1 (lp : LpT) (G : Roms) (call : CallT) (k : KV) : An := .n
theorem si_parse_parser_compared_1 {lp : LpT} (hL : LpOk lp) (G : Roms) : Ok1 G 106 (ar1 (s_parse_parser_compared_1 lp G)) :=
  .mk at_parse_parser_compared_1 <| sf1 hL (an := an_parse_parser_compared_1 lp G) (fun _ _ => obs (by kernel_rfl)) fun call a0 H n k => by kernel_rfl
noncomputable def an_parse_parser_signs (lp : LpT) (G : Roms) (call : CallT) (k : KV) : An := (.s .n (.s .n (.j (fun R=>s_parse_parser_signs_j5 lp G call k (rg R q6) (rg R q7)) (.b (.l _ (s_parse_parser_signs_l8b lp G call k) (fun R H n=>(rg R q0, rg R q1, rg R q2, rg R q6, rg R q7, H, n)) fun ih8=>.n)) .n)))
theorem si_parse_parser_signs {lp : LpT} (hL : LpOk lp) (G : Roms) : Ok1 G 107 (ar3 (s_parse_parser_signs lp G)) :=
  .mk at_parse_parser_signs <| sf3 hL (an := an_parse_parser_signs lp G) (fun _ _ => obs (by kernel_rfl)) fun call a0 a1 a2 H n k => by kernel_rfl
noncomputable def an_parse_parser_compared_1_1 (lp : LpT) (G : Roms) (call : CallT) (k : KV) : An := .n
theorem si_parse_parser_compared_1_1 {lp : LpT} (hL : LpOk lp) (G : Roms) : Ok1 G 108 (ar1 (s_parse_parser_compared_1_1 lp G)) :=
  .mk at_parse_parser_compared_1_1 <| sf1 hL (an := an_parse_parser_compared_1_1 lp G) (fun _ _ => obs (by kernel_rfl)) fun call a0 H n k => by kernel_rfl
noncomputable def an_parse_parser_unary (lp : LpT) (G : Roms) (call : CallT) (k : KV) : An := (.s .n (.s .n (.j (fun R=>s_parse_parser_unary_j10 lp G call k (rg R q0) (rg R q2) (rg R q63)) (.s .n (.b (.l _ (s_parse_parser_unary_l37b lp G call k) (fun R H n=>(rg R q0, rg R q2, rg R q3, rg R q16, rg R q17, rg R q18, rg R q63, H, n)) fun ih37=>.n))) (.s .n (.j (fun R=>s_parse_parser_unary_j14 lp G call k (rg R q2) (rg R q6) (rg R q63)) (.b (.l _ (s_parse_parser_unary_l17b lp G call k) (fun R H n=>(rg R q0, rg R q2, rg R q6, rg R q63, H, n)) fun ih17=>(.s .n (.b (.s .n (.s .n (.j (fun R=>s_parse_parser_unary_j23 lp G call k ih17 (rg R q0) (rg R q2) (rg R q6) (rg R q7) (rg R q8) (rg R q63)) .n .n))))))) .n)))))
theorem si_parse_parser_unary {lp : LpT} (hL : LpOk lp) (G : Roms) : Ok1 G 109 (ar1 (s_parse_parser_unary lp G)) :=
  .mk at_parse_parser_unary <| sf1 hL (an := an_parse_parser_unary lp G) (fun _ _ => obs (by kernel_rfl)) fun call a0 H n k => by kernel_rfl
noncomputable def an_parse_parser_parts (lp : LpT) (G : Roms) (call : CallT) (k : KV) : An := (.s .n (.s .n (.b (.l _ (s_parse_parser_parts_l5b lp G call k) (fun R H n=>(rg R q0, rg R q2, rg R q3, H, n)) fun ih5=>.n))))
theorem si_parse_parser_parts {lp : LpT} (hL : LpOk lp) (G : Roms) : Ok1 G 110 (ar1 (s_parse_parser_parts lp G)) :=
  .mk at_parse_parser_parts <| sf1 hL (an := an_parse_parser_parts lp G) (fun _ _ => obs (by kernel_rfl)) fun call a0 H n k => by kernel_rfl
noncomputable def an_parse_parser_prim (lp : LpT) (G : Roms) (call : CallT) (k : KV) : An := (.s .n (.s .n (.s .n (.j (fun R=>s_parse_parser_prim_j14 lp G call k (rg R q2) (rg R q4)) .n .n))))
theorem si_parse_parser_prim {lp : LpT} (hL : LpOk lp) (G : Roms) : Ok1 G 111 (ar1 (s_parse_parser_prim lp G)) :=
  .mk at_parse_parser_prim <| sf1 hL (an := an_parse_parser_prim lp G) (fun _ _ => obs (by kernel_rfl)) fun call a0 H n k => by kernel_rfl
noncomputable def an_parse_parser_member (lp : LpT) (G : Roms) (call : CallT) (k : KV) : An := .n
theorem si_parse_parser_member {lp : LpT} (hL : LpOk lp) (G : Roms) : Ok1 G 112 (ar3 (s_parse_parser_member lp G)) :=
  .mk at_parse_parser_member <| sf3 hL (an := an_parse_parser_member lp G) (fun _ _ => obs (by kernel_rfl)) fun call a0 a1 a2 H n k => by kernel_rfl
noncomputable def an_parse_parser_args (lp : LpT) (G : Roms) (call : CallT) (k : KV) : An := (.s .n (.s .n (.s .n (.j (fun R=>s_parse_parser_args_j3 lp G call k (rg R q3)) (.b (.l _ (s_parse_parser_args_l4b lp G call k) (fun R H n=>(rg R q0, rg R q3, H, n)) fun ih4=>(.s .n (.b (.j (fun R=>s_parse_parser_args_j10 lp G call k ih4 (rg R q0) (rg R q3)) .n .n))))) .n))))
theorem si_parse_parser_args {lp : LpT} (hL : LpOk lp) (G : Roms) : Ok1 G 113 (ar1 (s_parse_parser_args lp G)) :=
  .mk at_parse_parser_args <| sf1 hL (an := an_parse_parser_args lp G) (fun _ _ => obs (by kernel_rfl)) fun call a0 H n k => by kernel_rfl
noncomputable def an_ast_Type_Class (lp : LpT) (G : Roms) (call : CallT) (k : KV) : An := .n
theorem si_ast_Type_Class {lp : LpT} (hL : LpOk lp) (G : Roms) : Ok1 G 114 (ar1 (s_ast_Type_Class lp G)) :=
  .mk at_ast_Type_Class <| sf1 hL (an := an_ast_Type_Class lp G) (fun _ _ => obs (by kernel_rfl)) fun call a0 H n k => by kernel_rfl
end Go.PQ

/- All plain functions. -/
namespace Go.PQ
open Go.Eng
set_option maxRecDepth 100000
noncomputable def FS (lp : LpT) (G : Roms) : T SF := (.n none (.n none (.n none (.n none (.n none (.n none (.n (some (ar1 (s_lex_inner lp G))) .e .e) (.n (some (ar1 (s_parse_parser_down_1 lp G))) .e .e)) (.n (some (ar2 (s_parse_parser_fail lp G))) .e (.n (some (ar1 (s_parse_parser_prim lp G))) .e .e))) (.n none (.n (some (ar1 (s_lex_lexer_next lp G))) .e (.n (some (ar4 (s_parse_parser_either lp G))) .e .e)) (.n none (.n (some (ar1 (s_parse_parser_stmt lp G))) .e .e) .e))) (.n (some (ar2 (s_kilnlaw06_ParseNests_1 lp G))) (.n (some (ar1 (s_kilnlaw06_ret lp G))) (.n none (.n (some (ar1 (s_lex_number lp G))) .e .e) .e) (.n none (.n (some (ar0 (s_ast_Int lp G))) .e .e) .e)) (.n none (.n (some (ar1 (s_parse_parser_typ lp G))) .e (.n (some (ar3 (s_parse_parser_signs lp G))) .e .e)) (.n (some (ar2 (s_strings_HasPrefix lp G))) .e .e)))) (.n none (.n (some (ar0 (s_kilnlaw06_head lp G))) (.n none (.n none (.n (some (ar1 (s_lex_words lp G))) .e .e) (.n (some (ar1 (s_parse_parser_choice lp G))) .e .e)) (.n none (.n (some (ar2 (s_internal_stringslite_HasPrefix lp G))) .e .e) (.n (some (ar1 (s_parse_parser_args lp G))) .e .e))) (.n (some (ar1 (s_parse_parser_class lp G))) (.n (some (ar2 (s_parse_parser_name lp G))) .e (.n (some (ar1 (s_parse_parser_compared lp G))) .e .e)) .e)) (.n none (.n none (.n none (.n (some (ar1 (s_parse_parser_base lp G))) .e .e) .e) (.n none (.n (some (ar1 (s_ast_Of lp G))) .e .e) .e)) (.n none (.n (some (ar2 (s_parse_parser_is lp G))) .e (.n (some (ar1 (s_parse_parser_unary lp G))) .e .e)) (.n (some (ar1 (s_lex_great lp G))) .e .e))))) (.n none (.n (some (ar2 (s_kilnlaw06_ParseNests lp G))) (.n none (.n none (.n none (.n (some (ar1 (s_lex_small lp G))) .e .e) (.n (some (ar1 (s_parse_parser_expr lp G))) .e .e)) (.n none .e (.n (some (ar3 (s_parse_parser_member lp G))) .e .e))) (.n (some (ar1 (s_lex_All lp G))) (.n (some (ar2 (s_parse_parser_want lp G))) .e (.n (some (ar1 (s_parse_parser_expr_1 lp G))) .e .e)) .e)) (.n (some (ar1 (s_kilnlaw06_ParseNests_2 lp G))) (.n none (.n none (.n (some (ar1 (s_parse_parser_next lp G))) .e .e) .e) (.n none (.n (some (ar0 (s_ast_Bool lp G))) .e .e) .e)) (.n none (.n (some (ar2 (s_parse_parser_many lp G))) .e (.n (some (ar1 (s_parse_parser_compared_1_1 lp G))) .e .e)) (.n (some (ar2 (s_strings_IndexByte lp G))) .e .e)))) (.n none (.n (some (ar1 (s_parse_Class lp G))) (.n none (.n none (.n (some (ar1 (s_lex_digit lp G))) .e .e) (.n (some (ar2 (s_parse_parser_plain lp G))) .e .e)) (.n none (.n (some (ar2 (s_internal_stringslite_IndexByte lp G))) .e .e) (.n (some (ar1 (s_ast_Type_Class lp G))) .e .e))) (.n (some (ar1 (s_parse_parser_ok lp G))) (.n (some (ar2 (s_parse_parser_take lp G))) .e (.n (some (ar1 (s_parse_parser_compared_1 lp G))) .e .e)) (.n (some (ar2 (s_lex_lexer_step lp G))) .e .e))) (.n none (.n none (.n (some (ar1 (s_lex_lexer_skip lp G))) (.n (some (ar1 (s_parse_parser_block lp G))) .e .e) .e) (.n none (.n (some (ar1 (s_parse_parser_down lp G))) .e .e) .e)) (.n none (.n (some (ar1 (s_parse_parser_method lp G))) .e (.n (some (ar1 (s_parse_parser_parts lp G))) .e .e)) (.n (some (ar2 (s_lex_lexer_run lp G))) .e .e))))))
theorem all_ok {lp : LpT} (hL : LpOk lp) (G : Roms) : T.All (fun p s => Ok1 G p.key s) (FS lp G) := (.n0 (.n0 (.n0 (.n0 (.n0 (.n0 (.n1 (si_lex_inner hL G) .e .e) (.n1 (si_parse_parser_down_1 hL G) .e .e)) (.n1 (si_parse_parser_fail hL G) .e (.n1 (si_parse_parser_prim hL G) .e .e))) (.n0 (.n1 (si_lex_lexer_next hL G) .e (.n1 (si_parse_parser_either hL G) .e .e)) (.n0 (.n1 (si_parse_parser_stmt hL G) .e .e) .e))) (.n1 (si_kilnlaw06_ParseNests_1 hL G) (.n1 (si_kilnlaw06_ret hL G) (.n0 (.n1 (si_lex_number hL G) .e .e) .e) (.n0 (.n1 (si_ast_Int hL G) .e .e) .e)) (.n0 (.n1 (si_parse_parser_typ hL G) .e (.n1 (si_parse_parser_signs hL G) .e .e)) (.n1 (si_strings_HasPrefix hL G) .e .e)))) (.n0 (.n1 (si_kilnlaw06_head hL G) (.n0 (.n0 (.n1 (si_lex_words hL G) .e .e) (.n1 (si_parse_parser_choice hL G) .e .e)) (.n0 (.n1 (si_internal_stringslite_HasPrefix hL G) .e .e) (.n1 (si_parse_parser_args hL G) .e .e))) (.n1 (si_parse_parser_class hL G) (.n1 (si_parse_parser_name hL G) .e (.n1 (si_parse_parser_compared hL G) .e .e)) .e)) (.n0 (.n0 (.n0 (.n1 (si_parse_parser_base hL G) .e .e) .e) (.n0 (.n1 (si_ast_Of hL G) .e .e) .e)) (.n0 (.n1 (si_parse_parser_is hL G) .e (.n1 (si_parse_parser_unary hL G) .e .e)) (.n1 (si_lex_great hL G) .e .e))))) (.n0 (.n1 (si_kilnlaw06_ParseNests hL G) (.n0 (.n0 (.n0 (.n1 (si_lex_small hL G) .e .e) (.n1 (si_parse_parser_expr hL G) .e .e)) (.n0 .e (.n1 (si_parse_parser_member hL G) .e .e))) (.n1 (si_lex_All hL G) (.n1 (si_parse_parser_want hL G) .e (.n1 (si_parse_parser_expr_1 hL G) .e .e)) .e)) (.n1 (si_kilnlaw06_ParseNests_2 hL G) (.n0 (.n0 (.n1 (si_parse_parser_next hL G) .e .e) .e) (.n0 (.n1 (si_ast_Bool hL G) .e .e) .e)) (.n0 (.n1 (si_parse_parser_many hL G) .e (.n1 (si_parse_parser_compared_1_1 hL G) .e .e)) (.n1 (si_strings_IndexByte hL G) .e .e)))) (.n0 (.n1 (si_parse_Class hL G) (.n0 (.n0 (.n1 (si_lex_digit hL G) .e .e) (.n1 (si_parse_parser_plain hL G) .e .e)) (.n0 (.n1 (si_internal_stringslite_IndexByte hL G) .e .e) (.n1 (si_ast_Type_Class hL G) .e .e))) (.n1 (si_parse_parser_ok hL G) (.n1 (si_parse_parser_take hL G) .e (.n1 (si_parse_parser_compared_1 hL G) .e .e)) (.n1 (si_lex_lexer_step hL G) .e .e))) (.n0 (.n0 (.n1 (si_lex_lexer_skip hL G) (.n1 (si_parse_parser_block hL G) .e .e) .e) (.n0 (.n1 (si_parse_parser_down hL G) .e .e) .e)) (.n0 (.n1 (si_parse_parser_method hL G) .e (.n1 (si_parse_parser_parts hL G) .e .e)) (.n1 (si_lex_lexer_run hL G) .e .e))))))
theorem fs_ok {lp : LpT} (hL : LpOk lp) (G : Roms) : FsOk F G (FS lp G) := fun f s h => by
  have := T.All.getp (p := pth f) (all_ok hL G) h
  rw [key_pth] at this
  obtain ⟨h, o⟩ := this
  exact ⟨_, h, o⟩
end Go.PQ

