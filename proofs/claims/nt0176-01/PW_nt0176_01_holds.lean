import PyProof.Rows.All
import Wide.All
import OpenK.AllK
import Wide.FinOn
import KE.KIntText
import Lean
import PySem.Challenge.RW_nt0176_01
open PySem PySem.W PySem.Calls PyProof.Rows
set_option Elab.async false
set_option maxRecDepth 100000
set_option maxHeartbeats 8000000
set_option linter.all false
set_option compiler.extract_closed false
set_option bootstrap.genMatcherCode false
set_option genSizeOf false
set_option genInjectivity false
namespace Mine
noncomputable section
section
noncomputable def a___name__ : Str := ⟨⟨[95, 95, 110, 97, 109, 101, 95, 95]⟩⟩
noncomputable def t_0 : Str := ⟨⟨[115, 99, 104, 101, 109, 101, 46, 101, 114, 114, 111, 114, 115]⟩⟩
noncomputable def a_BadListing : Str := ⟨⟨[66, 97, 100, 76, 105, 115, 116, 105, 110, 103]⟩⟩
noncomputable def a_Exception : Str := ⟨⟨[69, 120, 99, 101, 112, 116, 105, 111, 110]⟩⟩
noncomputable def a___init__ : Str := ⟨⟨[95, 95, 105, 110, 105, 116, 95, 95]⟩⟩
noncomputable def a_self : Str := ⟨⟨[115, 101, 108, 102]⟩⟩
noncomputable def a_line : Str := ⟨⟨[108, 105, 110, 101]⟩⟩
noncomputable def a_word : Str := ⟨⟨[119, 111, 114, 100]⟩⟩
noncomputable def t_1 : Str := ⟨⟨[115, 99, 104, 101, 109, 101, 46, 105, 110, 115, 116, 114, 117, 99, 116, 105, 111, 110, 115]⟩⟩
noncomputable def a_OPERANDS : Str := ⟨⟨[79, 80, 69, 82, 65, 78, 68, 83]⟩⟩
noncomputable def a_const : Str := ⟨⟨[99, 111, 110, 115, 116]⟩⟩
noncomputable def a_move : Str := ⟨⟨[109, 111, 118, 101]⟩⟩
noncomputable def a_global : Str := ⟨⟨[103, 108, 111, 98, 97, 108]⟩⟩
noncomputable def a_setglobal : Str := ⟨⟨[115, 101, 116, 103, 108, 111, 98, 97, 108]⟩⟩
noncomputable def a_define : Str := ⟨⟨[100, 101, 102, 105, 110, 101]⟩⟩
noncomputable def a_free : Str := ⟨⟨[102, 114, 101, 101]⟩⟩
noncomputable def a_closure : Str := ⟨⟨[99, 108, 111, 115, 117, 114, 101]⟩⟩
noncomputable def a_fix : Str := ⟨⟨[102, 105, 120]⟩⟩
noncomputable def a_prim : Str := ⟨⟨[112, 114, 105, 109]⟩⟩
noncomputable def a_jump : Str := ⟨⟨[106, 117, 109, 112]⟩⟩
noncomputable def a_branchfalse : Str := ⟨⟨[98, 114, 97, 110, 99, 104, 102, 97, 108, 115, 101]⟩⟩
noncomputable def a_call : Str := ⟨⟨[99, 97, 108, 108]⟩⟩
noncomputable def a_give : Str := ⟨⟨[103, 105, 118, 101]⟩⟩
noncomputable def a_target : Str := ⟨⟨[116, 97, 114, 103, 101, 116]⟩⟩
noncomputable def a_constant : Str := ⟨⟨[99, 111, 110, 115, 116, 97, 110, 116]⟩⟩
noncomputable def a_source : Str := ⟨⟨[115, 111, 117, 114, 99, 101]⟩⟩
noncomputable def a_procedure : Str := ⟨⟨[112, 114, 111, 99, 101, 100, 117, 114, 101]⟩⟩
noncomputable def a_sources : Str := ⟨⟨[115, 111, 117, 114, 99, 101, 115]⟩⟩
noncomputable def a_rows : Str := ⟨⟨[114, 111, 119, 115]⟩⟩
noncomputable def a_primitive : Str := ⟨⟨[112, 114, 105, 109, 105, 116, 105, 118, 101]⟩⟩
noncomputable def a_label : Str := ⟨⟨[108, 97, 98, 101, 108]⟩⟩
noncomputable def a_Procedure : Str := ⟨⟨[80, 114, 111, 99, 101, 100, 117, 114, 101]⟩⟩
noncomputable def a_number : Str := ⟨⟨[110, 117, 109, 98, 101, 114]⟩⟩
noncomputable def a_title : Str := ⟨⟨[116, 105, 116, 108, 101]⟩⟩
noncomputable def a_needed : Str := ⟨⟨[110, 101, 101, 100, 101, 100]⟩⟩
noncomputable def a_has_rest : Str := ⟨⟨[104, 97, 115, 95, 114, 101, 115, 116]⟩⟩
noncomputable def a_is_continuation : Str := ⟨⟨[105, 115, 95, 99, 111, 110, 116, 105, 110, 117, 97, 116, 105, 111, 110]⟩⟩
noncomputable def a_registers : Str := ⟨⟨[114, 101, 103, 105, 115, 116, 101, 114, 115]⟩⟩
noncomputable def a_instructions : Str := ⟨⟨[105, 110, 115, 116, 114, 117, 99, 116, 105, 111, 110, 115]⟩⟩
noncomputable def a_operand_pairs : Str := ⟨⟨[111, 112, 101, 114, 97, 110, 100, 95, 112, 97, 105, 114, 115]⟩⟩
noncomputable def a_instruction : Str := ⟨⟨[105, 110, 115, 116, 114, 117, 99, 116, 105, 111, 110]⟩⟩
noncomputable def a_list : Str := ⟨⟨[108, 105, 115, 116]⟩⟩
noncomputable def a_zip : Str := ⟨⟨[122, 105, 112]⟩⟩
noncomputable def a_label_of : Str := ⟨⟨[108, 97, 98, 101, 108, 95, 111, 102]⟩⟩
noncomputable def a_sort : Str := ⟨⟨[115, 111, 114, 116]⟩⟩
noncomputable def a_operand : Str := ⟨⟨[111, 112, 101, 114, 97, 110, 100]⟩⟩
noncomputable def a_labels_met : Str := ⟨⟨[108, 97, 98, 101, 108, 115, 95, 109, 101, 116]⟩⟩
noncomputable def a_found : Str := ⟨⟨[102, 111, 117, 110, 100]⟩⟩
noncomputable def a_sorted : Str := ⟨⟨[115, 111, 114, 116, 101, 100]⟩⟩
noncomputable def t_2 : Str := ⟨⟨[115, 99, 104, 101, 109, 101, 46, 99, 111, 100, 101, 116, 101, 120, 116]⟩⟩
noncomputable def a_LETTERS : Str := ⟨⟨[76, 69, 84, 84, 69, 82, 83]⟩⟩
noncomputable def a_r : Str := ⟨⟨[114]⟩⟩
noncomputable def a_c : Str := ⟨⟨[99]⟩⟩
noncomputable def a_g : Str := ⟨⟨[103]⟩⟩
noncomputable def a_n : Str := ⟨⟨[110]⟩⟩
noncomputable def a_p : Str := ⟨⟨[112]⟩⟩
noncomputable def a_L : Str := ⟨⟨[76]⟩⟩
noncomputable def a_registers_text : Str := ⟨⟨[114, 101, 103, 105, 115, 116, 101, 114, 115, 95, 116, 101, 120, 116]⟩⟩
noncomputable def t_3 : Str := ⟨⟨[40]⟩⟩
noncomputable def t_4 : Str := ⟨⟨[32]⟩⟩
noncomputable def a_join : Str := ⟨⟨[106, 111, 105, 110]⟩⟩
noncomputable def a_str : Str := ⟨⟨[115, 116, 114]⟩⟩
noncomputable def a_register : Str := ⟨⟨[114, 101, 103, 105, 115, 116, 101, 114]⟩⟩
noncomputable def t_5 : Str := ⟨⟨[46, 48]⟩⟩
noncomputable def t_6 : Str := ⟨⟨[41]⟩⟩
noncomputable def a_fast : Str := ⟨⟨[102, 97, 115, 116]⟩⟩
noncomputable def a_operand_text : Str := ⟨⟨[111, 112, 101, 114, 97, 110, 100, 95, 116, 101, 120, 116]⟩⟩
noncomputable def a_names : Str := ⟨⟨[110, 97, 109, 101, 115]⟩⟩
noncomputable def t_7 : Str := ⟨⟨[32, 112]⟩⟩
noncomputable def a_own : Str := ⟨⟨[111, 119, 110]⟩⟩
noncomputable def a_instruction_text : Str := ⟨⟨[105, 110, 115, 116, 114, 117, 99, 116, 105, 111, 110, 95, 116, 101, 120, 116]⟩⟩
noncomputable def a_parts : Str := ⟨⟨[112, 97, 114, 116, 115]⟩⟩
noncomputable def a_procedure_lines : Str := ⟨⟨[112, 114, 111, 99, 101, 100, 117, 114, 101, 95, 108, 105, 110, 101, 115]⟩⟩
noncomputable def a_words : Str := ⟨⟨[119, 111, 114, 100, 115]⟩⟩
noncomputable def a_rest : Str := ⟨⟨[114, 101, 115, 116]⟩⟩
noncomputable def a_continuation : Str := ⟨⟨[99, 111, 110, 116, 105, 110, 117, 97, 116, 105, 111, 110]⟩⟩
noncomputable def a_len : Str := ⟨⟨[108, 101, 110]⟩⟩
noncomputable def a_labels : Str := ⟨⟨[108, 97, 98, 101, 108, 115]⟩⟩
noncomputable def a_place : Str := ⟨⟨[112, 108, 97, 99, 101]⟩⟩
noncomputable def a_enumerate : Str := ⟨⟨[101, 110, 117, 109, 101, 114, 97, 116, 101]⟩⟩
noncomputable def a_ahead : Str := ⟨⟨[97, 104, 101, 97, 100]⟩⟩
noncomputable def t_8 : Str := ⟨⟨[32, 32, 32]⟩⟩
noncomputable def a_append : Str := ⟨⟨[97, 112, 112, 101, 110, 100]⟩⟩
noncomputable def a_end : Str := ⟨⟨[101, 110, 100]⟩⟩
noncomputable def a_code_text : Str := ⟨⟨[99, 111, 100, 101, 95, 116, 101, 120, 116]⟩⟩
noncomputable def a_procedures : Str := ⟨⟨[112, 114, 111, 99, 101, 100, 117, 114, 101, 115]⟩⟩
noncomputable def a_lines : Str := ⟨⟨[108, 105, 110, 101, 115]⟩⟩
noncomputable def a_extend : Str := ⟨⟨[101, 120, 116, 101, 110, 100]⟩⟩
noncomputable def t_9 : Str := ⟨⟨[]⟩⟩
noncomputable def t_10 : Str := ⟨⟨[10]⟩⟩
noncomputable def a_Listing : Str := ⟨⟨[76, 105, 115, 116, 105, 110, 103]⟩⟩
noncomputable def a_text : Str := ⟨⟨[116, 101, 120, 116]⟩⟩
noncomputable def a_refuse : Str := ⟨⟨[114, 101, 102, 117, 115, 101]⟩⟩
noncomputable def a_is_at_end : Str := ⟨⟨[105, 115, 95, 97, 116, 95, 101, 110, 100]⟩⟩
noncomputable def a_skip_blanks : Str := ⟨⟨[115, 107, 105, 112, 95, 98, 108, 97, 110, 107, 115]⟩⟩
noncomputable def a_peek : Str := ⟨⟨[112, 101, 101, 107]⟩⟩
noncomputable def t_11 : Str := ⟨⟨[40, 41]⟩⟩
noncomputable def t_12 : Str := ⟨⟨[32, 40, 41, 10]⟩⟩
noncomputable def a_need : Str := ⟨⟨[110, 101, 101, 100]⟩⟩
noncomputable def a_wanted : Str := ⟨⟨[119, 97, 110, 116, 101, 100]⟩⟩
noncomputable def a_takes : Str := ⟨⟨[116, 97, 107, 101, 115]⟩⟩
noncomputable def a_count : Str := ⟨⟨[99, 111, 117, 110, 116]⟩⟩
noncomputable def a_is_figures : Str := ⟨⟨[105, 115, 95, 102, 105, 103, 117, 114, 101, 115]⟩⟩
noncomputable def a_int : Str := ⟨⟨[105, 110, 116]⟩⟩
noncomputable def a_lettered : Str := ⟨⟨[108, 101, 116, 116, 101, 114, 101, 100]⟩⟩
noncomputable def a_letter : Str := ⟨⟨[108, 101, 116, 116, 101, 114]⟩⟩
noncomputable def a_told_text : Str := ⟨⟨[116, 111, 108, 100, 95, 116, 101, 120, 116]⟩⟩
noncomputable def a_length : Str := ⟨⟨[108, 101, 110, 103, 116, 104]⟩⟩
noncomputable def a_first : Str := ⟨⟨[102, 105, 114, 115, 116]⟩⟩
noncomputable def a_end_line : Str := ⟨⟨[101, 110, 100, 95, 108, 105, 110, 101]⟩⟩
noncomputable def a_sign : Str := ⟨⟨[115, 105, 103, 110]⟩⟩
noncomputable def t_13 : Str := ⟨⟨[48, 49, 50, 51, 52, 53, 54, 55, 56, 57]⟩⟩
noncomputable def t_14 : Str := ⟨⟨[48]⟩⟩
noncomputable def a_read_registers : Str := ⟨⟨[114, 101, 97, 100, 95, 114, 101, 103, 105, 115, 116, 101, 114, 115]⟩⟩
noncomputable def a_listing : Str := ⟨⟨[108, 105, 115, 116, 105, 110, 103]⟩⟩
noncomputable def a_tuple : Str := ⟨⟨[116, 117, 112, 108, 101]⟩⟩
noncomputable def a_read_rows : Str := ⟨⟨[114, 101, 97, 100, 95, 114, 111, 119, 115]⟩⟩
noncomputable def a_read_operand : Str := ⟨⟨[114, 101, 97, 100, 95, 111, 112, 101, 114, 97, 110, 100]⟩⟩
noncomputable def a_ops : Str := ⟨⟨[111, 112, 115]⟩⟩
noncomputable def a_name : Str := ⟨⟨[110, 97, 109, 101]⟩⟩
noncomputable def a_read_instruction : Str := ⟨⟨[114, 101, 97, 100, 95, 105, 110, 115, 116, 114, 117, 99, 116, 105, 111, 110]⟩⟩
noncomputable def a_read_label : Str := ⟨⟨[114, 101, 97, 100, 95, 108, 97, 98, 101, 108]⟩⟩
noncomputable def a_read_instructions : Str := ⟨⟨[114, 101, 97, 100, 95, 105, 110, 115, 116, 114, 117, 99, 116, 105, 111, 110, 115]⟩⟩
noncomputable def a_told : Str := ⟨⟨[116, 111, 108, 100]⟩⟩
noncomputable def a_read_procedure : Str := ⟨⟨[114, 101, 97, 100, 95, 112, 114, 111, 99, 101, 100, 117, 114, 101]⟩⟩
noncomputable def a_read_procedures : Str := ⟨⟨[114, 101, 97, 100, 95, 112, 114, 111, 99, 101, 100, 117, 114, 101, 115]⟩⟩
noncomputable def a_dict : Str := ⟨⟨[100, 105, 99, 116]⟩⟩
noncomputable def a_op : Str := ⟨⟨[111, 112]⟩⟩
noncomputable def a_read_code : Str := ⟨⟨[114, 101, 97, 100, 95, 99, 111, 100, 101]⟩⟩
noncomputable def a_law_nt0176_01 : Str := ⟨⟨[108, 97, 119, 95, 110, 116, 48, 49, 55, 54, 95, 48, 49]⟩⟩
noncomputable def a__law_pot : Str := ⟨⟨[95, 108, 97, 119, 95, 112, 111, 116]⟩⟩
noncomputable def a_script : Str := ⟨⟨[115, 99, 114, 105, 112, 116]⟩⟩
noncomputable def a_sum : Str := ⟨⟨[115, 117, 109]⟩⟩
noncomputable def a_one : Str := ⟨⟨[111, 110, 101]⟩⟩
noncomputable def a__law_dip : Str := ⟨⟨[95, 108, 97, 119, 95, 100, 105, 112]⟩⟩
noncomputable def a_pot : Str := ⟨⟨[112, 111, 116]⟩⟩
noncomputable def a_many : Str := ⟨⟨[109, 97, 110, 121]⟩⟩
noncomputable def a_at : Str := ⟨⟨[97, 116]⟩⟩
noncomputable def a__law_names : Str := ⟨⟨[95, 108, 97, 119, 95, 110, 97, 109, 101, 115]⟩⟩
noncomputable def a_car : Str := ⟨⟨[99, 97, 114]⟩⟩
noncomputable def a_cons : Str := ⟨⟨[99, 111, 110, 115]⟩⟩
noncomputable def t_15 : Str := ⟨⟨[108, 105, 115, 116, 45, 62, 118, 101, 99, 116, 111, 114]⟩⟩
noncomputable def a__law_steps : Str := ⟨⟨[95, 108, 97, 119, 95, 115, 116, 101, 112, 115]⟩⟩
noncomputable def a_some : Str := ⟨⟨[115, 111, 109, 101]⟩⟩
noncomputable def a__law_wrong : Str := ⟨⟨[95, 108, 97, 119, 95, 119, 114, 111, 110, 103]⟩⟩
noncomputable def a_way : Str := ⟨⟨[119, 97, 121]⟩⟩
noncomputable def a_split : Str := ⟨⟨[115, 112, 108, 105, 116]⟩⟩
noncomputable def a_proceduer : Str := ⟨⟨[112, 114, 111, 99, 101, 100, 117, 101, 114]⟩⟩
noncomputable def a_replace : Str := ⟨⟨[114, 101, 112, 108, 97, 99, 101]⟩⟩
noncomputable def t_16 : Str := ⟨⟨[110, 101, 101, 100, 101, 100, 32]⟩⟩
noncomputable def t_17 : Str := ⟨⟨[110, 101, 101, 100, 101, 100, 32, 48]⟩⟩
noncomputable def t_18 : Str := ⟨⟨[116, 105, 116, 108, 101, 32, 49]⟩⟩
noncomputable def t_19 : Str := ⟨⟨[116, 105, 116, 108, 101, 32, 50]⟩⟩
noncomputable def a_ends : Str := ⟨⟨[101, 110, 100, 115]⟩⟩
noncomputable def t_20 : Str := ⟨⟨[101, 110, 100, 32, 101, 110, 100]⟩⟩
noncomputable def t_21 : Str := ⟨⟨[101, 110, 100, 32, 49]⟩⟩
noncomputable def a_e : Str := ⟨⟨[101]⟩⟩
noncomputable def t_22 : Str := ⟨⟨[32, 112, 114, 105, 109, 32]⟩⟩
noncomputable def a_q : Str := ⟨⟨[113]⟩⟩
noncomputable def a_prims : Str := ⟨⟨[112, 114, 105, 109, 115]⟩⟩
noncomputable def t_23 : Str := ⟨⟨[32, 114, 49]⟩⟩
noncomputable def t_24 : Str := ⟨⟨[76, 57, 32]⟩⟩
noncomputable def a_strip : Str := ⟨⟨[115, 116, 114, 105, 112]⟩⟩
noncomputable def a_range : Str := ⟨⟨[114, 97, 110, 103, 101]⟩⟩
noncomputable def a_cars : Str := ⟨⟨[99, 97, 114, 115]⟩⟩
noncomputable def a_law : Str := ⟨⟨[108, 97, 119]⟩⟩
noncomputable def a_a : Str := ⟨⟨[97]⟩⟩
noncomputable def a_chr : Str := ⟨⟨[99, 104, 114]⟩⟩
noncomputable def a_spoilt : Str := ⟨⟨[115, 112, 111, 105, 108, 116]⟩⟩
noncomputable def a_error : Str := ⟨⟨[101, 114, 114, 111, 114]⟩⟩
noncomputable def t_25 : Str := ⟨⟨[47, 99, 108, 97, 105, 109, 47, 99, 117, 116, 46, 112, 121]⟩⟩
theorem atoms_all : Str.ofString "__name__" = a___name__ ∧
  Str.ofString "scheme.errors" = t_0 ∧
  Str.ofString "BadListing" = a_BadListing ∧
  Str.ofString "Exception" = a_Exception ∧
  Str.ofString "__init__" = a___init__ ∧
  Str.ofString "self" = a_self ∧
  Str.ofString "line" = a_line ∧
  Str.ofString "word" = a_word ∧
  Str.ofString "scheme.instructions" = t_1 ∧
  Str.ofString "OPERANDS" = a_OPERANDS ∧
  Str.ofString "const" = a_const ∧
  Str.ofString "move" = a_move ∧
  Str.ofString "global" = a_global ∧
  Str.ofString "setglobal" = a_setglobal ∧
  Str.ofString "define" = a_define ∧
  Str.ofString "free" = a_free ∧
  Str.ofString "closure" = a_closure ∧
  Str.ofString "fix" = a_fix ∧
  Str.ofString "prim" = a_prim ∧
  Str.ofString "jump" = a_jump ∧
  Str.ofString "branchfalse" = a_branchfalse ∧
  Str.ofString "call" = a_call ∧
  Str.ofString "give" = a_give ∧
  Str.ofString "target" = a_target ∧
  Str.ofString "constant" = a_constant ∧
  Str.ofString "source" = a_source ∧
  Str.ofString "procedure" = a_procedure ∧
  Str.ofString "sources" = a_sources ∧
  Str.ofString "rows" = a_rows ∧
  Str.ofString "primitive" = a_primitive ∧
  Str.ofString "label" = a_label ∧
  Str.ofString "Procedure" = a_Procedure ∧
  Str.ofString "number" = a_number ∧
  Str.ofString "title" = a_title ∧
  Str.ofString "needed" = a_needed ∧
  Str.ofString "has_rest" = a_has_rest ∧
  Str.ofString "is_continuation" = a_is_continuation ∧
  Str.ofString "registers" = a_registers ∧
  Str.ofString "instructions" = a_instructions ∧
  Str.ofString "operand_pairs" = a_operand_pairs ∧
  Str.ofString "instruction" = a_instruction ∧
  Str.ofString "list" = a_list ∧
  Str.ofString "zip" = a_zip ∧
  Str.ofString "label_of" = a_label_of ∧
  Str.ofString "sort" = a_sort ∧
  Str.ofString "operand" = a_operand ∧
  Str.ofString "labels_met" = a_labels_met ∧
  Str.ofString "found" = a_found ∧
  Str.ofString "sorted" = a_sorted ∧
  Str.ofString "scheme.codetext" = t_2 ∧
  Str.ofString "LETTERS" = a_LETTERS ∧
  Str.ofString "r" = a_r ∧
  Str.ofString "c" = a_c ∧
  Str.ofString "g" = a_g ∧
  Str.ofString "n" = a_n ∧
  Str.ofString "p" = a_p ∧
  Str.ofString "L" = a_L ∧
  Str.ofString "registers_text" = a_registers_text ∧
  Str.ofString "(" = t_3 ∧
  Str.ofString " " = t_4 ∧
  Str.ofString "join" = a_join ∧
  Str.ofString "str" = a_str ∧
  Str.ofString "register" = a_register ∧
  Str.ofString ".0" = t_5 ∧
  Str.ofString ")" = t_6 ∧
  Str.ofString "fast" = a_fast ∧
  Str.ofString "operand_text" = a_operand_text ∧
  Str.ofString "names" = a_names ∧
  Str.ofString " p" = t_7 ∧
  Str.ofString "own" = a_own ∧
  Str.ofString "instruction_text" = a_instruction_text ∧
  Str.ofString "parts" = a_parts ∧
  Str.ofString "procedure_lines" = a_procedure_lines ∧
  Str.ofString "words" = a_words ∧
  Str.ofString "rest" = a_rest ∧
  Str.ofString "continuation" = a_continuation ∧
  Str.ofString "len" = a_len ∧
  Str.ofString "labels" = a_labels ∧
  Str.ofString "place" = a_place ∧
  Str.ofString "enumerate" = a_enumerate ∧
  Str.ofString "ahead" = a_ahead ∧
  Str.ofString "   " = t_8 ∧
  Str.ofString "append" = a_append ∧
  Str.ofString "end" = a_end ∧
  Str.ofString "code_text" = a_code_text ∧
  Str.ofString "procedures" = a_procedures ∧
  Str.ofString "lines" = a_lines ∧
  Str.ofString "extend" = a_extend ∧
  Str.ofString "" = t_9 ∧
  Str.ofString "\n" = t_10 ∧
  Str.ofString "Listing" = a_Listing ∧
  Str.ofString "text" = a_text ∧
  Str.ofString "refuse" = a_refuse ∧
  Str.ofString "is_at_end" = a_is_at_end ∧
  Str.ofString "skip_blanks" = a_skip_blanks ∧
  Str.ofString "peek" = a_peek ∧
  Str.ofString "()" = t_11 ∧
  Str.ofString " ()\n" = t_12 ∧
  Str.ofString "need" = a_need ∧
  Str.ofString "wanted" = a_wanted ∧
  Str.ofString "takes" = a_takes ∧
  Str.ofString "count" = a_count ∧
  Str.ofString "is_figures" = a_is_figures ∧
  Str.ofString "int" = a_int ∧
  Str.ofString "lettered" = a_lettered ∧
  Str.ofString "letter" = a_letter ∧
  Str.ofString "told_text" = a_told_text ∧
  Str.ofString "length" = a_length ∧
  Str.ofString "first" = a_first ∧
  Str.ofString "end_line" = a_end_line ∧
  Str.ofString "sign" = a_sign ∧
  Str.ofString "0123456789" = t_13 ∧
  Str.ofString "0" = t_14 ∧
  Str.ofString "read_registers" = a_read_registers ∧
  Str.ofString "listing" = a_listing ∧
  Str.ofString "tuple" = a_tuple ∧
  Str.ofString "read_rows" = a_read_rows ∧
  Str.ofString "read_operand" = a_read_operand ∧
  Str.ofString "ops" = a_ops ∧
  Str.ofString "name" = a_name ∧
  Str.ofString "read_instruction" = a_read_instruction ∧
  Str.ofString "read_label" = a_read_label ∧
  Str.ofString "read_instructions" = a_read_instructions ∧
  Str.ofString "told" = a_told ∧
  Str.ofString "read_procedure" = a_read_procedure ∧
  Str.ofString "read_procedures" = a_read_procedures ∧
  Str.ofString "dict" = a_dict ∧
  Str.ofString "op" = a_op ∧
  Str.ofString "read_code" = a_read_code ∧
  Str.ofString "law_nt0176_01" = a_law_nt0176_01 ∧
  Str.ofString "_law_pot" = a__law_pot ∧
  Str.ofString "script" = a_script ∧
  Str.ofString "sum" = a_sum ∧
  Str.ofString "one" = a_one ∧
  Str.ofString "_law_dip" = a__law_dip ∧
  Str.ofString "pot" = a_pot ∧
  Str.ofString "many" = a_many ∧
  Str.ofString "at" = a_at ∧
  Str.ofString "_law_names" = a__law_names ∧
  Str.ofString "car" = a_car ∧
  Str.ofString "cons" = a_cons ∧
  Str.ofString "list->vector" = t_15 ∧
  Str.ofString "_law_steps" = a__law_steps ∧
  Str.ofString "some" = a_some ∧
  Str.ofString "_law_wrong" = a__law_wrong ∧
  Str.ofString "way" = a_way ∧
  Str.ofString "split" = a_split ∧
  Str.ofString "proceduer" = a_proceduer ∧
  Str.ofString "replace" = a_replace ∧
  Str.ofString "needed " = t_16 ∧
  Str.ofString "needed 0" = t_17 ∧
  Str.ofString "title 1" = t_18 ∧
  Str.ofString "title 2" = t_19 ∧
  Str.ofString "ends" = a_ends ∧
  Str.ofString "end end" = t_20 ∧
  Str.ofString "end 1" = t_21 ∧
  Str.ofString "e" = a_e ∧
  Str.ofString " prim " = t_22 ∧
  Str.ofString "q" = a_q ∧
  Str.ofString "prims" = a_prims ∧
  Str.ofString " r1" = t_23 ∧
  Str.ofString "L9 " = t_24 ∧
  Str.ofString "strip" = a_strip ∧
  Str.ofString "range" = a_range ∧
  Str.ofString "cars" = a_cars ∧
  Str.ofString "law" = a_law ∧
  Str.ofString "a" = a_a ∧
  Str.ofString "chr" = a_chr ∧
  Str.ofString "spoilt" = a_spoilt ∧
  Str.ofString "error" = a_error ∧
  Str.ofString "/claim/cut.py" = t_25 := by
  refine ⟨?_, ?_, ?_, ?_, ?_, ?_, ?_, ?_, ?_, ?_, ?_, ?_, ?_, ?_, ?_, ?_, ?_, ?_, ?_, ?_, ?_, ?_, ?_, ?_, ?_, ?_, ?_, ?_, ?_, ?_, ?_, ?_, ?_, ?_, ?_, ?_, ?_, ?_, ?_, ?_, ?_, ?_, ?_, ?_, ?_, ?_, ?_, ?_, ?_, ?_, ?_, ?_, ?_, ?_, ?_, ?_, ?_, ?_, ?_, ?_, ?_, ?_, ?_, ?_, ?_, ?_, ?_, ?_, ?_, ?_, ?_, ?_, ?_, ?_, ?_, ?_, ?_, ?_, ?_, ?_, ?_, ?_, ?_, ?_, ?_, ?_, ?_, ?_, ?_, ?_, ?_, ?_, ?_, ?_, ?_, ?_, ?_, ?_, ?_, ?_, ?_, ?_, ?_, ?_, ?_, ?_, ?_, ?_, ?_, ?_, ?_, ?_, ?_, ?_, ?_, ?_, ?_, ?_, ?_, ?_, ?_, ?_, ?_, ?_, ?_, ?_, ?_, ?_, ?_, ?_, ?_, ?_, ?_, ?_, ?_, ?_, ?_, ?_, ?_, ?_, ?_, ?_, ?_, ?_, ?_, ?_, ?_, ?_, ?_, ?_, ?_, ?_, ?_, ?_, ?_, ?_, ?_, ?_, ?_, ?_, ?_, ?_, ?_, ?_, ?_, ?_, ?_, ?_, ?_, ?_, ?_⟩ <;> kernel_rfl
noncomputable abbrev rawSt (i : Nat) : Option Stmt := PySem.Challenge.pw_nt0176_01.main.body[i]?
def st_0 : Stmt := by
  refine (?f : ∀ s, rawSt 0 = some s → ∀ x : Stmt, s = x → Stmt) _ rfl ?x ?h
  case h => (first | (simp only [atoms_all]; exact rfl) | exact rfl)
  exact fun _ _ x _ => x
noncomputable abbrev raw_BadListing_init : Option Stmt := match rawSt 1 with
  | some (.ClassDef _ _ _ b _ _ _ _ _ _ _) => b[0]?
  | _ => none
def args_BadListing_init : Arguments := by
  refine (?f : ∀ n a b d r t s u v p, raw_BadListing_init = some (.FunctionDef n a b d r t s u v p) → ∀ x : Arguments, a = x → Arguments) _ _ _ _ _ _ _ _ _ _ rfl ?x ?h
  case h => (try simp only [atoms_all]); exact rfl
  intros; assumption
def body_BadListing_init : List Stmt := by
  refine (?f : ∀ n a b d r t s u v p, raw_BadListing_init = some (.FunctionDef n a b d r t s u v p) → ∀ x : List Stmt, b = x → List Stmt) _ _ _ _ _ _ _ _ _ _ rfl ?x ?h
  case h => (try simp only [atoms_all]); exact rfl
  intros; assumption
def scope_BadListing_init : Scope := by
  refine (?f : ∀ n a b d r t s u v p, raw_BadListing_init = some (.FunctionDef n a b d r t s u v p) → ∀ x : Scope, s = x → Scope) _ _ _ _ _ _ _ _ _ _ rfl ?x ?h
  case h => (try simp only [atoms_all]); exact rfl
  intros; assumption
noncomputable def pos_BadListing_init : Pos := by
  refine (?f : ∀ n a b d r t s u v p, raw_BadListing_init = some (.FunctionDef n a b d r t s u v p) → ∀ x : Pos, p = x → Pos) _ _ _ _ _ _ _ _ _ _ rfl ?x ?h
  case h => (try simp only [atoms_all]); exact rfl
  intros; assumption
def st_BadListing_init : Stmt := .FunctionDef a___init__ args_BadListing_init body_BadListing_init [] none [] scope_BadListing_init none a___init__ pos_BadListing_init
def cbody_BadListing : List Stmt := [st_BadListing_init]
def st_BadListing : Stmt := by
  refine (?f : ∀ s, rawSt 1 = some s → ∀ x : Stmt, s = x → Stmt) _ rfl (.ClassDef a_BadListing ?ba ?kw cbody_BadListing ?d ?tp ?sc ?ts ?bd ?sa ?p) ?h
  case h => (simp only [atoms_all]; exact rfl)
  exact fun _ _ x _ => x
def st_2 : Stmt := by
  refine (?f : ∀ s, rawSt 2 = some s → ∀ x : Stmt, s = x → Stmt) _ rfl ?x ?h
  case h => (first | (simp only [atoms_all]; exact rfl) | exact rfl)
  exact fun _ _ x _ => x
def st_3 : Stmt := by
  refine (?f : ∀ s, rawSt 3 = some s → ∀ x : Stmt, s = x → Stmt) _ rfl ?x ?h
  case h => (first | (simp only [atoms_all]; exact rfl) | exact rfl)
  exact fun _ _ x _ => x
noncomputable abbrev raw_Procedure_init : Option Stmt := match rawSt 4 with
  | some (.ClassDef _ _ _ b _ _ _ _ _ _ _) => b[0]?
  | _ => none
def args_Procedure_init : Arguments := by
  refine (?f : ∀ n a b d r t s u v p, raw_Procedure_init = some (.FunctionDef n a b d r t s u v p) → ∀ x : Arguments, a = x → Arguments) _ _ _ _ _ _ _ _ _ _ rfl ?x ?h
  case h => (try simp only [atoms_all]); exact rfl
  intros; assumption
def body_Procedure_init : List Stmt := by
  refine (?f : ∀ n a b d r t s u v p, raw_Procedure_init = some (.FunctionDef n a b d r t s u v p) → ∀ x : List Stmt, b = x → List Stmt) _ _ _ _ _ _ _ _ _ _ rfl ?x ?h
  case h => (try simp only [atoms_all]); exact rfl
  intros; assumption
def scope_Procedure_init : Scope := by
  refine (?f : ∀ n a b d r t s u v p, raw_Procedure_init = some (.FunctionDef n a b d r t s u v p) → ∀ x : Scope, s = x → Scope) _ _ _ _ _ _ _ _ _ _ rfl ?x ?h
  case h => (try simp only [atoms_all]); exact rfl
  intros; assumption
noncomputable def pos_Procedure_init : Pos := by
  refine (?f : ∀ n a b d r t s u v p, raw_Procedure_init = some (.FunctionDef n a b d r t s u v p) → ∀ x : Pos, p = x → Pos) _ _ _ _ _ _ _ _ _ _ rfl ?x ?h
  case h => (try simp only [atoms_all]); exact rfl
  intros; assumption
def st_Procedure_init : Stmt := .FunctionDef a___init__ args_Procedure_init body_Procedure_init [] none [] scope_Procedure_init none a___init__ pos_Procedure_init
def cbody_Procedure : List Stmt := [st_Procedure_init]
def st_Procedure : Stmt := by
  refine (?f : ∀ s, rawSt 4 = some s → ∀ x : Stmt, s = x → Stmt) _ rfl (.ClassDef a_Procedure ?ba ?kw cbody_Procedure ?d ?tp ?sc ?ts ?bd ?sa ?p) ?h
  case h => (simp only [atoms_all]; exact rfl)
  exact fun _ _ x _ => x
def args_operand_pairs : Arguments := by
  refine (?f : ∀ n a b d r t s u v p, rawSt 5 = some (.FunctionDef n a b d r t s u v p) → ∀ x : Arguments, a = x → Arguments) _ _ _ _ _ _ _ _ _ _ rfl ?x ?h
  case h => (try simp only [atoms_all]); exact rfl
  intros; assumption
def body_operand_pairs : List Stmt := by
  refine (?f : ∀ n a b d r t s u v p, rawSt 5 = some (.FunctionDef n a b d r t s u v p) → ∀ x : List Stmt, b = x → List Stmt) _ _ _ _ _ _ _ _ _ _ rfl ?x ?h
  case h => (try simp only [atoms_all]); exact rfl
  intros; assumption
def scope_operand_pairs : Scope := by
  refine (?f : ∀ n a b d r t s u v p, rawSt 5 = some (.FunctionDef n a b d r t s u v p) → ∀ x : Scope, s = x → Scope) _ _ _ _ _ _ _ _ _ _ rfl ?x ?h
  case h => (try simp only [atoms_all]); exact rfl
  intros; assumption
noncomputable def pos_operand_pairs : Pos := by
  refine (?f : ∀ n a b d r t s u v p, rawSt 5 = some (.FunctionDef n a b d r t s u v p) → ∀ x : Pos, p = x → Pos) _ _ _ _ _ _ _ _ _ _ rfl ?x ?h
  case h => (try simp only [atoms_all]); exact rfl
  intros; assumption
def st_operand_pairs : Stmt := .FunctionDef a_operand_pairs args_operand_pairs body_operand_pairs [] none [] scope_operand_pairs none a_operand_pairs pos_operand_pairs
def args_label_of : Arguments := by
  refine (?f : ∀ n a b d r t s u v p, rawSt 6 = some (.FunctionDef n a b d r t s u v p) → ∀ x : Arguments, a = x → Arguments) _ _ _ _ _ _ _ _ _ _ rfl ?x ?h
  case h => (try simp only [atoms_all]); exact rfl
  intros; assumption
def body_label_of : List Stmt := by
  refine (?f : ∀ n a b d r t s u v p, rawSt 6 = some (.FunctionDef n a b d r t s u v p) → ∀ x : List Stmt, b = x → List Stmt) _ _ _ _ _ _ _ _ _ _ rfl ?x ?h
  case h => (try simp only [atoms_all]); exact rfl
  intros; assumption
def scope_label_of : Scope := by
  refine (?f : ∀ n a b d r t s u v p, rawSt 6 = some (.FunctionDef n a b d r t s u v p) → ∀ x : Scope, s = x → Scope) _ _ _ _ _ _ _ _ _ _ rfl ?x ?h
  case h => (try simp only [atoms_all]); exact rfl
  intros; assumption
noncomputable def pos_label_of : Pos := by
  refine (?f : ∀ n a b d r t s u v p, rawSt 6 = some (.FunctionDef n a b d r t s u v p) → ∀ x : Pos, p = x → Pos) _ _ _ _ _ _ _ _ _ _ rfl ?x ?h
  case h => (try simp only [atoms_all]); exact rfl
  intros; assumption
def st_label_of : Stmt := .FunctionDef a_label_of args_label_of body_label_of [] none [] scope_label_of none a_label_of pos_label_of
def args_labels_met : Arguments := by
  refine (?f : ∀ n a b d r t s u v p, rawSt 7 = some (.FunctionDef n a b d r t s u v p) → ∀ x : Arguments, a = x → Arguments) _ _ _ _ _ _ _ _ _ _ rfl ?x ?h
  case h => (try simp only [atoms_all]); exact rfl
  intros; assumption
def body_labels_met : List Stmt := by
  refine (?f : ∀ n a b d r t s u v p, rawSt 7 = some (.FunctionDef n a b d r t s u v p) → ∀ x : List Stmt, b = x → List Stmt) _ _ _ _ _ _ _ _ _ _ rfl ?x ?h
  case h => (try simp only [atoms_all]); exact rfl
  intros; assumption
def scope_labels_met : Scope := by
  refine (?f : ∀ n a b d r t s u v p, rawSt 7 = some (.FunctionDef n a b d r t s u v p) → ∀ x : Scope, s = x → Scope) _ _ _ _ _ _ _ _ _ _ rfl ?x ?h
  case h => (try simp only [atoms_all]); exact rfl
  intros; assumption
noncomputable def pos_labels_met : Pos := by
  refine (?f : ∀ n a b d r t s u v p, rawSt 7 = some (.FunctionDef n a b d r t s u v p) → ∀ x : Pos, p = x → Pos) _ _ _ _ _ _ _ _ _ _ rfl ?x ?h
  case h => (try simp only [atoms_all]); exact rfl
  intros; assumption
def st_labels_met : Stmt := .FunctionDef a_labels_met args_labels_met body_labels_met [] none [] scope_labels_met none a_labels_met pos_labels_met
def st_8 : Stmt := by
  refine (?f : ∀ s, rawSt 8 = some s → ∀ x : Stmt, s = x → Stmt) _ rfl ?x ?h
  case h => (first | (simp only [atoms_all]; exact rfl) | exact rfl)
  exact fun _ _ x _ => x
def st_9 : Stmt := by
  refine (?f : ∀ s, rawSt 9 = some s → ∀ x : Stmt, s = x → Stmt) _ rfl ?x ?h
  case h => (first | (simp only [atoms_all]; exact rfl) | exact rfl)
  exact fun _ _ x _ => x
def args_registers_text : Arguments := by
  refine (?f : ∀ n a b d r t s u v p, rawSt 10 = some (.FunctionDef n a b d r t s u v p) → ∀ x : Arguments, a = x → Arguments) _ _ _ _ _ _ _ _ _ _ rfl ?x ?h
  case h => (try simp only [atoms_all]); exact rfl
  intros; assumption
def body_registers_text : List Stmt := by
  refine (?f : ∀ n a b d r t s u v p, rawSt 10 = some (.FunctionDef n a b d r t s u v p) → ∀ x : List Stmt, b = x → List Stmt) _ _ _ _ _ _ _ _ _ _ rfl ?x ?h
  case h => (try simp only [atoms_all]); exact rfl
  intros; assumption
def scope_registers_text : Scope := by
  refine (?f : ∀ n a b d r t s u v p, rawSt 10 = some (.FunctionDef n a b d r t s u v p) → ∀ x : Scope, s = x → Scope) _ _ _ _ _ _ _ _ _ _ rfl ?x ?h
  case h => (try simp only [atoms_all]); exact rfl
  intros; assumption
noncomputable def pos_registers_text : Pos := by
  refine (?f : ∀ n a b d r t s u v p, rawSt 10 = some (.FunctionDef n a b d r t s u v p) → ∀ x : Pos, p = x → Pos) _ _ _ _ _ _ _ _ _ _ rfl ?x ?h
  case h => (try simp only [atoms_all]); exact rfl
  intros; assumption
def st_registers_text : Stmt := .FunctionDef a_registers_text args_registers_text body_registers_text [] none [] scope_registers_text none a_registers_text pos_registers_text
def args_operand_text : Arguments := by
  refine (?f : ∀ n a b d r t s u v p, rawSt 11 = some (.FunctionDef n a b d r t s u v p) → ∀ x : Arguments, a = x → Arguments) _ _ _ _ _ _ _ _ _ _ rfl ?x ?h
  case h => (try simp only [atoms_all]); exact rfl
  intros; assumption
def body_operand_text : List Stmt := by
  refine (?f : ∀ n a b d r t s u v p, rawSt 11 = some (.FunctionDef n a b d r t s u v p) → ∀ x : List Stmt, b = x → List Stmt) _ _ _ _ _ _ _ _ _ _ rfl ?x ?h
  case h => (try simp only [atoms_all]); exact rfl
  intros; assumption
def scope_operand_text : Scope := by
  refine (?f : ∀ n a b d r t s u v p, rawSt 11 = some (.FunctionDef n a b d r t s u v p) → ∀ x : Scope, s = x → Scope) _ _ _ _ _ _ _ _ _ _ rfl ?x ?h
  case h => (try simp only [atoms_all]); exact rfl
  intros; assumption
noncomputable def pos_operand_text : Pos := by
  refine (?f : ∀ n a b d r t s u v p, rawSt 11 = some (.FunctionDef n a b d r t s u v p) → ∀ x : Pos, p = x → Pos) _ _ _ _ _ _ _ _ _ _ rfl ?x ?h
  case h => (try simp only [atoms_all]); exact rfl
  intros; assumption
def st_operand_text : Stmt := .FunctionDef a_operand_text args_operand_text body_operand_text [] none [] scope_operand_text none a_operand_text pos_operand_text
def args_instruction_text : Arguments := by
  refine (?f : ∀ n a b d r t s u v p, rawSt 12 = some (.FunctionDef n a b d r t s u v p) → ∀ x : Arguments, a = x → Arguments) _ _ _ _ _ _ _ _ _ _ rfl ?x ?h
  case h => (try simp only [atoms_all]); exact rfl
  intros; assumption
def body_instruction_text : List Stmt := by
  refine (?f : ∀ n a b d r t s u v p, rawSt 12 = some (.FunctionDef n a b d r t s u v p) → ∀ x : List Stmt, b = x → List Stmt) _ _ _ _ _ _ _ _ _ _ rfl ?x ?h
  case h => (try simp only [atoms_all]); exact rfl
  intros; assumption
def scope_instruction_text : Scope := by
  refine (?f : ∀ n a b d r t s u v p, rawSt 12 = some (.FunctionDef n a b d r t s u v p) → ∀ x : Scope, s = x → Scope) _ _ _ _ _ _ _ _ _ _ rfl ?x ?h
  case h => (try simp only [atoms_all]); exact rfl
  intros; assumption
noncomputable def pos_instruction_text : Pos := by
  refine (?f : ∀ n a b d r t s u v p, rawSt 12 = some (.FunctionDef n a b d r t s u v p) → ∀ x : Pos, p = x → Pos) _ _ _ _ _ _ _ _ _ _ rfl ?x ?h
  case h => (try simp only [atoms_all]); exact rfl
  intros; assumption
def st_instruction_text : Stmt := .FunctionDef a_instruction_text args_instruction_text body_instruction_text [] none [] scope_instruction_text none a_instruction_text pos_instruction_text
def args_procedure_lines : Arguments := by
  refine (?f : ∀ n a b d r t s u v p, rawSt 13 = some (.FunctionDef n a b d r t s u v p) → ∀ x : Arguments, a = x → Arguments) _ _ _ _ _ _ _ _ _ _ rfl ?x ?h
  case h => (try simp only [atoms_all]); exact rfl
  intros; assumption
def body_procedure_lines : List Stmt := by
  refine (?f : ∀ n a b d r t s u v p, rawSt 13 = some (.FunctionDef n a b d r t s u v p) → ∀ x : List Stmt, b = x → List Stmt) _ _ _ _ _ _ _ _ _ _ rfl ?x ?h
  case h => (try simp only [atoms_all]); exact rfl
  intros; assumption
def scope_procedure_lines : Scope := by
  refine (?f : ∀ n a b d r t s u v p, rawSt 13 = some (.FunctionDef n a b d r t s u v p) → ∀ x : Scope, s = x → Scope) _ _ _ _ _ _ _ _ _ _ rfl ?x ?h
  case h => (try simp only [atoms_all]); exact rfl
  intros; assumption
noncomputable def pos_procedure_lines : Pos := by
  refine (?f : ∀ n a b d r t s u v p, rawSt 13 = some (.FunctionDef n a b d r t s u v p) → ∀ x : Pos, p = x → Pos) _ _ _ _ _ _ _ _ _ _ rfl ?x ?h
  case h => (try simp only [atoms_all]); exact rfl
  intros; assumption
def st_procedure_lines : Stmt := .FunctionDef a_procedure_lines args_procedure_lines body_procedure_lines [] none [] scope_procedure_lines none a_procedure_lines pos_procedure_lines
def args_code_text : Arguments := by
  refine (?f : ∀ n a b d r t s u v p, rawSt 14 = some (.FunctionDef n a b d r t s u v p) → ∀ x : Arguments, a = x → Arguments) _ _ _ _ _ _ _ _ _ _ rfl ?x ?h
  case h => (try simp only [atoms_all]); exact rfl
  intros; assumption
def body_code_text : List Stmt := by
  refine (?f : ∀ n a b d r t s u v p, rawSt 14 = some (.FunctionDef n a b d r t s u v p) → ∀ x : List Stmt, b = x → List Stmt) _ _ _ _ _ _ _ _ _ _ rfl ?x ?h
  case h => (try simp only [atoms_all]); exact rfl
  intros; assumption
def scope_code_text : Scope := by
  refine (?f : ∀ n a b d r t s u v p, rawSt 14 = some (.FunctionDef n a b d r t s u v p) → ∀ x : Scope, s = x → Scope) _ _ _ _ _ _ _ _ _ _ rfl ?x ?h
  case h => (try simp only [atoms_all]); exact rfl
  intros; assumption
noncomputable def pos_code_text : Pos := by
  refine (?f : ∀ n a b d r t s u v p, rawSt 14 = some (.FunctionDef n a b d r t s u v p) → ∀ x : Pos, p = x → Pos) _ _ _ _ _ _ _ _ _ _ rfl ?x ?h
  case h => (try simp only [atoms_all]); exact rfl
  intros; assumption
def st_code_text : Stmt := .FunctionDef a_code_text args_code_text body_code_text [] none [] scope_code_text none a_code_text pos_code_text
noncomputable abbrev raw_Listing_init : Option Stmt := match rawSt 15 with
  | some (.ClassDef _ _ _ b _ _ _ _ _ _ _) => b[0]?
  | _ => none
def args_Listing_init : Arguments := by
  refine (?f : ∀ n a b d r t s u v p, raw_Listing_init = some (.FunctionDef n a b d r t s u v p) → ∀ x : Arguments, a = x → Arguments) _ _ _ _ _ _ _ _ _ _ rfl ?x ?h
  case h => (try simp only [atoms_all]); exact rfl
  intros; assumption
def body_Listing_init : List Stmt := by
  refine (?f : ∀ n a b d r t s u v p, raw_Listing_init = some (.FunctionDef n a b d r t s u v p) → ∀ x : List Stmt, b = x → List Stmt) _ _ _ _ _ _ _ _ _ _ rfl ?x ?h
  case h => (try simp only [atoms_all]); exact rfl
  intros; assumption
def scope_Listing_init : Scope := by
  refine (?f : ∀ n a b d r t s u v p, raw_Listing_init = some (.FunctionDef n a b d r t s u v p) → ∀ x : Scope, s = x → Scope) _ _ _ _ _ _ _ _ _ _ rfl ?x ?h
  case h => (try simp only [atoms_all]); exact rfl
  intros; assumption
noncomputable def pos_Listing_init : Pos := by
  refine (?f : ∀ n a b d r t s u v p, raw_Listing_init = some (.FunctionDef n a b d r t s u v p) → ∀ x : Pos, p = x → Pos) _ _ _ _ _ _ _ _ _ _ rfl ?x ?h
  case h => (try simp only [atoms_all]); exact rfl
  intros; assumption
def st_Listing_init : Stmt := .FunctionDef a___init__ args_Listing_init body_Listing_init [] none [] scope_Listing_init none a___init__ pos_Listing_init
noncomputable abbrev raw_Listing_refuse : Option Stmt := match rawSt 15 with
  | some (.ClassDef _ _ _ b _ _ _ _ _ _ _) => b[1]?
  | _ => none
def args_Listing_refuse : Arguments := by
  refine (?f : ∀ n a b d r t s u v p, raw_Listing_refuse = some (.FunctionDef n a b d r t s u v p) → ∀ x : Arguments, a = x → Arguments) _ _ _ _ _ _ _ _ _ _ rfl ?x ?h
  case h => (try simp only [atoms_all]); exact rfl
  intros; assumption
def body_Listing_refuse : List Stmt := by
  refine (?f : ∀ n a b d r t s u v p, raw_Listing_refuse = some (.FunctionDef n a b d r t s u v p) → ∀ x : List Stmt, b = x → List Stmt) _ _ _ _ _ _ _ _ _ _ rfl ?x ?h
  case h => (try simp only [atoms_all]); exact rfl
  intros; assumption
def scope_Listing_refuse : Scope := by
  refine (?f : ∀ n a b d r t s u v p, raw_Listing_refuse = some (.FunctionDef n a b d r t s u v p) → ∀ x : Scope, s = x → Scope) _ _ _ _ _ _ _ _ _ _ rfl ?x ?h
  case h => (try simp only [atoms_all]); exact rfl
  intros; assumption
noncomputable def pos_Listing_refuse : Pos := by
  refine (?f : ∀ n a b d r t s u v p, raw_Listing_refuse = some (.FunctionDef n a b d r t s u v p) → ∀ x : Pos, p = x → Pos) _ _ _ _ _ _ _ _ _ _ rfl ?x ?h
  case h => (try simp only [atoms_all]); exact rfl
  intros; assumption
def st_Listing_refuse : Stmt := .FunctionDef a_refuse args_Listing_refuse body_Listing_refuse [] none [] scope_Listing_refuse none a_refuse pos_Listing_refuse
noncomputable abbrev raw_Listing_is_at_end : Option Stmt := match rawSt 15 with
  | some (.ClassDef _ _ _ b _ _ _ _ _ _ _) => b[2]?
  | _ => none
def args_Listing_is_at_end : Arguments := by
  refine (?f : ∀ n a b d r t s u v p, raw_Listing_is_at_end = some (.FunctionDef n a b d r t s u v p) → ∀ x : Arguments, a = x → Arguments) _ _ _ _ _ _ _ _ _ _ rfl ?x ?h
  case h => (try simp only [atoms_all]); exact rfl
  intros; assumption
def body_Listing_is_at_end : List Stmt := by
  refine (?f : ∀ n a b d r t s u v p, raw_Listing_is_at_end = some (.FunctionDef n a b d r t s u v p) → ∀ x : List Stmt, b = x → List Stmt) _ _ _ _ _ _ _ _ _ _ rfl ?x ?h
  case h => (try simp only [atoms_all]); exact rfl
  intros; assumption
def scope_Listing_is_at_end : Scope := by
  refine (?f : ∀ n a b d r t s u v p, raw_Listing_is_at_end = some (.FunctionDef n a b d r t s u v p) → ∀ x : Scope, s = x → Scope) _ _ _ _ _ _ _ _ _ _ rfl ?x ?h
  case h => (try simp only [atoms_all]); exact rfl
  intros; assumption
noncomputable def pos_Listing_is_at_end : Pos := by
  refine (?f : ∀ n a b d r t s u v p, raw_Listing_is_at_end = some (.FunctionDef n a b d r t s u v p) → ∀ x : Pos, p = x → Pos) _ _ _ _ _ _ _ _ _ _ rfl ?x ?h
  case h => (try simp only [atoms_all]); exact rfl
  intros; assumption
def st_Listing_is_at_end : Stmt := .FunctionDef a_is_at_end args_Listing_is_at_end body_Listing_is_at_end [] none [] scope_Listing_is_at_end none a_is_at_end pos_Listing_is_at_end
noncomputable abbrev raw_Listing_skip_blanks : Option Stmt := match rawSt 15 with
  | some (.ClassDef _ _ _ b _ _ _ _ _ _ _) => b[3]?
  | _ => none
def args_Listing_skip_blanks : Arguments := by
  refine (?f : ∀ n a b d r t s u v p, raw_Listing_skip_blanks = some (.FunctionDef n a b d r t s u v p) → ∀ x : Arguments, a = x → Arguments) _ _ _ _ _ _ _ _ _ _ rfl ?x ?h
  case h => (try simp only [atoms_all]); exact rfl
  intros; assumption
def body_Listing_skip_blanks : List Stmt := by
  refine (?f : ∀ n a b d r t s u v p, raw_Listing_skip_blanks = some (.FunctionDef n a b d r t s u v p) → ∀ x : List Stmt, b = x → List Stmt) _ _ _ _ _ _ _ _ _ _ rfl ?x ?h
  case h => (try simp only [atoms_all]); exact rfl
  intros; assumption
def scope_Listing_skip_blanks : Scope := by
  refine (?f : ∀ n a b d r t s u v p, raw_Listing_skip_blanks = some (.FunctionDef n a b d r t s u v p) → ∀ x : Scope, s = x → Scope) _ _ _ _ _ _ _ _ _ _ rfl ?x ?h
  case h => (try simp only [atoms_all]); exact rfl
  intros; assumption
noncomputable def pos_Listing_skip_blanks : Pos := by
  refine (?f : ∀ n a b d r t s u v p, raw_Listing_skip_blanks = some (.FunctionDef n a b d r t s u v p) → ∀ x : Pos, p = x → Pos) _ _ _ _ _ _ _ _ _ _ rfl ?x ?h
  case h => (try simp only [atoms_all]); exact rfl
  intros; assumption
def st_Listing_skip_blanks : Stmt := .FunctionDef a_skip_blanks args_Listing_skip_blanks body_Listing_skip_blanks [] none [] scope_Listing_skip_blanks none a_skip_blanks pos_Listing_skip_blanks
noncomputable abbrev raw_Listing_peek : Option Stmt := match rawSt 15 with
  | some (.ClassDef _ _ _ b _ _ _ _ _ _ _) => b[4]?
  | _ => none
def args_Listing_peek : Arguments := by
  refine (?f : ∀ n a b d r t s u v p, raw_Listing_peek = some (.FunctionDef n a b d r t s u v p) → ∀ x : Arguments, a = x → Arguments) _ _ _ _ _ _ _ _ _ _ rfl ?x ?h
  case h => (try simp only [atoms_all]); exact rfl
  intros; assumption
def body_Listing_peek : List Stmt := by
  refine (?f : ∀ n a b d r t s u v p, raw_Listing_peek = some (.FunctionDef n a b d r t s u v p) → ∀ x : List Stmt, b = x → List Stmt) _ _ _ _ _ _ _ _ _ _ rfl ?x ?h
  case h => (try simp only [atoms_all]); exact rfl
  intros; assumption
def scope_Listing_peek : Scope := by
  refine (?f : ∀ n a b d r t s u v p, raw_Listing_peek = some (.FunctionDef n a b d r t s u v p) → ∀ x : Scope, s = x → Scope) _ _ _ _ _ _ _ _ _ _ rfl ?x ?h
  case h => (try simp only [atoms_all]); exact rfl
  intros; assumption
noncomputable def pos_Listing_peek : Pos := by
  refine (?f : ∀ n a b d r t s u v p, raw_Listing_peek = some (.FunctionDef n a b d r t s u v p) → ∀ x : Pos, p = x → Pos) _ _ _ _ _ _ _ _ _ _ rfl ?x ?h
  case h => (try simp only [atoms_all]); exact rfl
  intros; assumption
def st_Listing_peek : Stmt := .FunctionDef a_peek args_Listing_peek body_Listing_peek [] none [] scope_Listing_peek none a_peek pos_Listing_peek
noncomputable abbrev raw_Listing_word : Option Stmt := match rawSt 15 with
  | some (.ClassDef _ _ _ b _ _ _ _ _ _ _) => b[5]?
  | _ => none
def args_Listing_word : Arguments := by
  refine (?f : ∀ n a b d r t s u v p, raw_Listing_word = some (.FunctionDef n a b d r t s u v p) → ∀ x : Arguments, a = x → Arguments) _ _ _ _ _ _ _ _ _ _ rfl ?x ?h
  case h => (try simp only [atoms_all]); exact rfl
  intros; assumption
def body_Listing_word : List Stmt := by
  refine (?f : ∀ n a b d r t s u v p, raw_Listing_word = some (.FunctionDef n a b d r t s u v p) → ∀ x : List Stmt, b = x → List Stmt) _ _ _ _ _ _ _ _ _ _ rfl ?x ?h
  case h => (try simp only [atoms_all]); exact rfl
  intros; assumption
def scope_Listing_word : Scope := by
  refine (?f : ∀ n a b d r t s u v p, raw_Listing_word = some (.FunctionDef n a b d r t s u v p) → ∀ x : Scope, s = x → Scope) _ _ _ _ _ _ _ _ _ _ rfl ?x ?h
  case h => (try simp only [atoms_all]); exact rfl
  intros; assumption
noncomputable def pos_Listing_word : Pos := by
  refine (?f : ∀ n a b d r t s u v p, raw_Listing_word = some (.FunctionDef n a b d r t s u v p) → ∀ x : Pos, p = x → Pos) _ _ _ _ _ _ _ _ _ _ rfl ?x ?h
  case h => (try simp only [atoms_all]); exact rfl
  intros; assumption
def st_Listing_word : Stmt := .FunctionDef a_word args_Listing_word body_Listing_word [] none [] scope_Listing_word none a_word pos_Listing_word
noncomputable abbrev raw_Listing_need : Option Stmt := match rawSt 15 with
  | some (.ClassDef _ _ _ b _ _ _ _ _ _ _) => b[6]?
  | _ => none
def args_Listing_need : Arguments := by
  refine (?f : ∀ n a b d r t s u v p, raw_Listing_need = some (.FunctionDef n a b d r t s u v p) → ∀ x : Arguments, a = x → Arguments) _ _ _ _ _ _ _ _ _ _ rfl ?x ?h
  case h => (try simp only [atoms_all]); exact rfl
  intros; assumption
def body_Listing_need : List Stmt := by
  refine (?f : ∀ n a b d r t s u v p, raw_Listing_need = some (.FunctionDef n a b d r t s u v p) → ∀ x : List Stmt, b = x → List Stmt) _ _ _ _ _ _ _ _ _ _ rfl ?x ?h
  case h => (try simp only [atoms_all]); exact rfl
  intros; assumption
def scope_Listing_need : Scope := by
  refine (?f : ∀ n a b d r t s u v p, raw_Listing_need = some (.FunctionDef n a b d r t s u v p) → ∀ x : Scope, s = x → Scope) _ _ _ _ _ _ _ _ _ _ rfl ?x ?h
  case h => (try simp only [atoms_all]); exact rfl
  intros; assumption
noncomputable def pos_Listing_need : Pos := by
  refine (?f : ∀ n a b d r t s u v p, raw_Listing_need = some (.FunctionDef n a b d r t s u v p) → ∀ x : Pos, p = x → Pos) _ _ _ _ _ _ _ _ _ _ rfl ?x ?h
  case h => (try simp only [atoms_all]); exact rfl
  intros; assumption
def st_Listing_need : Stmt := .FunctionDef a_need args_Listing_need body_Listing_need [] none [] scope_Listing_need none a_need pos_Listing_need
noncomputable abbrev raw_Listing_takes : Option Stmt := match rawSt 15 with
  | some (.ClassDef _ _ _ b _ _ _ _ _ _ _) => b[7]?
  | _ => none
def args_Listing_takes : Arguments := by
  refine (?f : ∀ n a b d r t s u v p, raw_Listing_takes = some (.FunctionDef n a b d r t s u v p) → ∀ x : Arguments, a = x → Arguments) _ _ _ _ _ _ _ _ _ _ rfl ?x ?h
  case h => (try simp only [atoms_all]); exact rfl
  intros; assumption
def body_Listing_takes : List Stmt := by
  refine (?f : ∀ n a b d r t s u v p, raw_Listing_takes = some (.FunctionDef n a b d r t s u v p) → ∀ x : List Stmt, b = x → List Stmt) _ _ _ _ _ _ _ _ _ _ rfl ?x ?h
  case h => (try simp only [atoms_all]); exact rfl
  intros; assumption
def scope_Listing_takes : Scope := by
  refine (?f : ∀ n a b d r t s u v p, raw_Listing_takes = some (.FunctionDef n a b d r t s u v p) → ∀ x : Scope, s = x → Scope) _ _ _ _ _ _ _ _ _ _ rfl ?x ?h
  case h => (try simp only [atoms_all]); exact rfl
  intros; assumption
noncomputable def pos_Listing_takes : Pos := by
  refine (?f : ∀ n a b d r t s u v p, raw_Listing_takes = some (.FunctionDef n a b d r t s u v p) → ∀ x : Pos, p = x → Pos) _ _ _ _ _ _ _ _ _ _ rfl ?x ?h
  case h => (try simp only [atoms_all]); exact rfl
  intros; assumption
def st_Listing_takes : Stmt := .FunctionDef a_takes args_Listing_takes body_Listing_takes [] none [] scope_Listing_takes none a_takes pos_Listing_takes
noncomputable abbrev raw_Listing_count : Option Stmt := match rawSt 15 with
  | some (.ClassDef _ _ _ b _ _ _ _ _ _ _) => b[8]?
  | _ => none
def args_Listing_count : Arguments := by
  refine (?f : ∀ n a b d r t s u v p, raw_Listing_count = some (.FunctionDef n a b d r t s u v p) → ∀ x : Arguments, a = x → Arguments) _ _ _ _ _ _ _ _ _ _ rfl ?x ?h
  case h => (try simp only [atoms_all]); exact rfl
  intros; assumption
def body_Listing_count : List Stmt := by
  refine (?f : ∀ n a b d r t s u v p, raw_Listing_count = some (.FunctionDef n a b d r t s u v p) → ∀ x : List Stmt, b = x → List Stmt) _ _ _ _ _ _ _ _ _ _ rfl ?x ?h
  case h => (try simp only [atoms_all]); exact rfl
  intros; assumption
def scope_Listing_count : Scope := by
  refine (?f : ∀ n a b d r t s u v p, raw_Listing_count = some (.FunctionDef n a b d r t s u v p) → ∀ x : Scope, s = x → Scope) _ _ _ _ _ _ _ _ _ _ rfl ?x ?h
  case h => (try simp only [atoms_all]); exact rfl
  intros; assumption
noncomputable def pos_Listing_count : Pos := by
  refine (?f : ∀ n a b d r t s u v p, raw_Listing_count = some (.FunctionDef n a b d r t s u v p) → ∀ x : Pos, p = x → Pos) _ _ _ _ _ _ _ _ _ _ rfl ?x ?h
  case h => (try simp only [atoms_all]); exact rfl
  intros; assumption
def st_Listing_count : Stmt := .FunctionDef a_count args_Listing_count body_Listing_count [] none [] scope_Listing_count none a_count pos_Listing_count
noncomputable abbrev raw_Listing_lettered : Option Stmt := match rawSt 15 with
  | some (.ClassDef _ _ _ b _ _ _ _ _ _ _) => b[9]?
  | _ => none
def args_Listing_lettered : Arguments := by
  refine (?f : ∀ n a b d r t s u v p, raw_Listing_lettered = some (.FunctionDef n a b d r t s u v p) → ∀ x : Arguments, a = x → Arguments) _ _ _ _ _ _ _ _ _ _ rfl ?x ?h
  case h => (try simp only [atoms_all]); exact rfl
  intros; assumption
def body_Listing_lettered : List Stmt := by
  refine (?f : ∀ n a b d r t s u v p, raw_Listing_lettered = some (.FunctionDef n a b d r t s u v p) → ∀ x : List Stmt, b = x → List Stmt) _ _ _ _ _ _ _ _ _ _ rfl ?x ?h
  case h => (try simp only [atoms_all]); exact rfl
  intros; assumption
def scope_Listing_lettered : Scope := by
  refine (?f : ∀ n a b d r t s u v p, raw_Listing_lettered = some (.FunctionDef n a b d r t s u v p) → ∀ x : Scope, s = x → Scope) _ _ _ _ _ _ _ _ _ _ rfl ?x ?h
  case h => (try simp only [atoms_all]); exact rfl
  intros; assumption
noncomputable def pos_Listing_lettered : Pos := by
  refine (?f : ∀ n a b d r t s u v p, raw_Listing_lettered = some (.FunctionDef n a b d r t s u v p) → ∀ x : Pos, p = x → Pos) _ _ _ _ _ _ _ _ _ _ rfl ?x ?h
  case h => (try simp only [atoms_all]); exact rfl
  intros; assumption
def st_Listing_lettered : Stmt := .FunctionDef a_lettered args_Listing_lettered body_Listing_lettered [] none [] scope_Listing_lettered none a_lettered pos_Listing_lettered
noncomputable abbrev raw_Listing_told_text : Option Stmt := match rawSt 15 with
  | some (.ClassDef _ _ _ b _ _ _ _ _ _ _) => b[10]?
  | _ => none
def args_Listing_told_text : Arguments := by
  refine (?f : ∀ n a b d r t s u v p, raw_Listing_told_text = some (.FunctionDef n a b d r t s u v p) → ∀ x : Arguments, a = x → Arguments) _ _ _ _ _ _ _ _ _ _ rfl ?x ?h
  case h => (try simp only [atoms_all]); exact rfl
  intros; assumption
def body_Listing_told_text : List Stmt := by
  refine (?f : ∀ n a b d r t s u v p, raw_Listing_told_text = some (.FunctionDef n a b d r t s u v p) → ∀ x : List Stmt, b = x → List Stmt) _ _ _ _ _ _ _ _ _ _ rfl ?x ?h
  case h => (try simp only [atoms_all]); exact rfl
  intros; assumption
def scope_Listing_told_text : Scope := by
  refine (?f : ∀ n a b d r t s u v p, raw_Listing_told_text = some (.FunctionDef n a b d r t s u v p) → ∀ x : Scope, s = x → Scope) _ _ _ _ _ _ _ _ _ _ rfl ?x ?h
  case h => (try simp only [atoms_all]); exact rfl
  intros; assumption
noncomputable def pos_Listing_told_text : Pos := by
  refine (?f : ∀ n a b d r t s u v p, raw_Listing_told_text = some (.FunctionDef n a b d r t s u v p) → ∀ x : Pos, p = x → Pos) _ _ _ _ _ _ _ _ _ _ rfl ?x ?h
  case h => (try simp only [atoms_all]); exact rfl
  intros; assumption
def st_Listing_told_text : Stmt := .FunctionDef a_told_text args_Listing_told_text body_Listing_told_text [] none [] scope_Listing_told_text none a_told_text pos_Listing_told_text
noncomputable abbrev raw_Listing_end_line : Option Stmt := match rawSt 15 with
  | some (.ClassDef _ _ _ b _ _ _ _ _ _ _) => b[11]?
  | _ => none
def args_Listing_end_line : Arguments := by
  refine (?f : ∀ n a b d r t s u v p, raw_Listing_end_line = some (.FunctionDef n a b d r t s u v p) → ∀ x : Arguments, a = x → Arguments) _ _ _ _ _ _ _ _ _ _ rfl ?x ?h
  case h => (try simp only [atoms_all]); exact rfl
  intros; assumption
def body_Listing_end_line : List Stmt := by
  refine (?f : ∀ n a b d r t s u v p, raw_Listing_end_line = some (.FunctionDef n a b d r t s u v p) → ∀ x : List Stmt, b = x → List Stmt) _ _ _ _ _ _ _ _ _ _ rfl ?x ?h
  case h => (try simp only [atoms_all]); exact rfl
  intros; assumption
def scope_Listing_end_line : Scope := by
  refine (?f : ∀ n a b d r t s u v p, raw_Listing_end_line = some (.FunctionDef n a b d r t s u v p) → ∀ x : Scope, s = x → Scope) _ _ _ _ _ _ _ _ _ _ rfl ?x ?h
  case h => (try simp only [atoms_all]); exact rfl
  intros; assumption
noncomputable def pos_Listing_end_line : Pos := by
  refine (?f : ∀ n a b d r t s u v p, raw_Listing_end_line = some (.FunctionDef n a b d r t s u v p) → ∀ x : Pos, p = x → Pos) _ _ _ _ _ _ _ _ _ _ rfl ?x ?h
  case h => (try simp only [atoms_all]); exact rfl
  intros; assumption
def st_Listing_end_line : Stmt := .FunctionDef a_end_line args_Listing_end_line body_Listing_end_line [] none [] scope_Listing_end_line none a_end_line pos_Listing_end_line
def cbody_Listing : List Stmt := [st_Listing_init, st_Listing_refuse, st_Listing_is_at_end, st_Listing_skip_blanks, st_Listing_peek, st_Listing_word, st_Listing_need, st_Listing_takes, st_Listing_count, st_Listing_lettered, st_Listing_told_text, st_Listing_end_line]
def st_Listing : Stmt := by
  refine (?f : ∀ s, rawSt 15 = some s → ∀ x : Stmt, s = x → Stmt) _ rfl (.ClassDef a_Listing ?ba ?kw cbody_Listing ?d ?tp ?sc ?ts ?bd ?sa ?p) ?h
  case h => (simp only [atoms_all]; exact rfl)
  exact fun _ _ x _ => x
def args_is_figures : Arguments := by
  refine (?f : ∀ n a b d r t s u v p, rawSt 16 = some (.FunctionDef n a b d r t s u v p) → ∀ x : Arguments, a = x → Arguments) _ _ _ _ _ _ _ _ _ _ rfl ?x ?h
  case h => (try simp only [atoms_all]); exact rfl
  intros; assumption
def body_is_figures : List Stmt := by
  refine (?f : ∀ n a b d r t s u v p, rawSt 16 = some (.FunctionDef n a b d r t s u v p) → ∀ x : List Stmt, b = x → List Stmt) _ _ _ _ _ _ _ _ _ _ rfl ?x ?h
  case h => (try simp only [atoms_all]); exact rfl
  intros; assumption
def scope_is_figures : Scope := by
  refine (?f : ∀ n a b d r t s u v p, rawSt 16 = some (.FunctionDef n a b d r t s u v p) → ∀ x : Scope, s = x → Scope) _ _ _ _ _ _ _ _ _ _ rfl ?x ?h
  case h => (try simp only [atoms_all]); exact rfl
  intros; assumption
noncomputable def pos_is_figures : Pos := by
  refine (?f : ∀ n a b d r t s u v p, rawSt 16 = some (.FunctionDef n a b d r t s u v p) → ∀ x : Pos, p = x → Pos) _ _ _ _ _ _ _ _ _ _ rfl ?x ?h
  case h => (try simp only [atoms_all]); exact rfl
  intros; assumption
def st_is_figures : Stmt := .FunctionDef a_is_figures args_is_figures body_is_figures [] none [] scope_is_figures none a_is_figures pos_is_figures
def args_read_registers : Arguments := by
  refine (?f : ∀ n a b d r t s u v p, rawSt 17 = some (.FunctionDef n a b d r t s u v p) → ∀ x : Arguments, a = x → Arguments) _ _ _ _ _ _ _ _ _ _ rfl ?x ?h
  case h => (try simp only [atoms_all]); exact rfl
  intros; assumption
def body_read_registers : List Stmt := by
  refine (?f : ∀ n a b d r t s u v p, rawSt 17 = some (.FunctionDef n a b d r t s u v p) → ∀ x : List Stmt, b = x → List Stmt) _ _ _ _ _ _ _ _ _ _ rfl ?x ?h
  case h => (try simp only [atoms_all]); exact rfl
  intros; assumption
def scope_read_registers : Scope := by
  refine (?f : ∀ n a b d r t s u v p, rawSt 17 = some (.FunctionDef n a b d r t s u v p) → ∀ x : Scope, s = x → Scope) _ _ _ _ _ _ _ _ _ _ rfl ?x ?h
  case h => (try simp only [atoms_all]); exact rfl
  intros; assumption
noncomputable def pos_read_registers : Pos := by
  refine (?f : ∀ n a b d r t s u v p, rawSt 17 = some (.FunctionDef n a b d r t s u v p) → ∀ x : Pos, p = x → Pos) _ _ _ _ _ _ _ _ _ _ rfl ?x ?h
  case h => (try simp only [atoms_all]); exact rfl
  intros; assumption
def st_read_registers : Stmt := .FunctionDef a_read_registers args_read_registers body_read_registers [] none [] scope_read_registers none a_read_registers pos_read_registers
def args_read_rows : Arguments := by
  refine (?f : ∀ n a b d r t s u v p, rawSt 18 = some (.FunctionDef n a b d r t s u v p) → ∀ x : Arguments, a = x → Arguments) _ _ _ _ _ _ _ _ _ _ rfl ?x ?h
  case h => (try simp only [atoms_all]); exact rfl
  intros; assumption
def body_read_rows : List Stmt := by
  refine (?f : ∀ n a b d r t s u v p, rawSt 18 = some (.FunctionDef n a b d r t s u v p) → ∀ x : List Stmt, b = x → List Stmt) _ _ _ _ _ _ _ _ _ _ rfl ?x ?h
  case h => (try simp only [atoms_all]); exact rfl
  intros; assumption
def scope_read_rows : Scope := by
  refine (?f : ∀ n a b d r t s u v p, rawSt 18 = some (.FunctionDef n a b d r t s u v p) → ∀ x : Scope, s = x → Scope) _ _ _ _ _ _ _ _ _ _ rfl ?x ?h
  case h => (try simp only [atoms_all]); exact rfl
  intros; assumption
noncomputable def pos_read_rows : Pos := by
  refine (?f : ∀ n a b d r t s u v p, rawSt 18 = some (.FunctionDef n a b d r t s u v p) → ∀ x : Pos, p = x → Pos) _ _ _ _ _ _ _ _ _ _ rfl ?x ?h
  case h => (try simp only [atoms_all]); exact rfl
  intros; assumption
def st_read_rows : Stmt := .FunctionDef a_read_rows args_read_rows body_read_rows [] none [] scope_read_rows none a_read_rows pos_read_rows
def args_read_operand : Arguments := by
  refine (?f : ∀ n a b d r t s u v p, rawSt 19 = some (.FunctionDef n a b d r t s u v p) → ∀ x : Arguments, a = x → Arguments) _ _ _ _ _ _ _ _ _ _ rfl ?x ?h
  case h => (try simp only [atoms_all]); exact rfl
  intros; assumption
def body_read_operand : List Stmt := by
  refine (?f : ∀ n a b d r t s u v p, rawSt 19 = some (.FunctionDef n a b d r t s u v p) → ∀ x : List Stmt, b = x → List Stmt) _ _ _ _ _ _ _ _ _ _ rfl ?x ?h
  case h => (try simp only [atoms_all]); exact rfl
  intros; assumption
def scope_read_operand : Scope := by
  refine (?f : ∀ n a b d r t s u v p, rawSt 19 = some (.FunctionDef n a b d r t s u v p) → ∀ x : Scope, s = x → Scope) _ _ _ _ _ _ _ _ _ _ rfl ?x ?h
  case h => (try simp only [atoms_all]); exact rfl
  intros; assumption
noncomputable def pos_read_operand : Pos := by
  refine (?f : ∀ n a b d r t s u v p, rawSt 19 = some (.FunctionDef n a b d r t s u v p) → ∀ x : Pos, p = x → Pos) _ _ _ _ _ _ _ _ _ _ rfl ?x ?h
  case h => (try simp only [atoms_all]); exact rfl
  intros; assumption
def st_read_operand : Stmt := .FunctionDef a_read_operand args_read_operand body_read_operand [] none [] scope_read_operand none a_read_operand pos_read_operand
def args_read_instruction : Arguments := by
  refine (?f : ∀ n a b d r t s u v p, rawSt 20 = some (.FunctionDef n a b d r t s u v p) → ∀ x : Arguments, a = x → Arguments) _ _ _ _ _ _ _ _ _ _ rfl ?x ?h
  case h => (try simp only [atoms_all]); exact rfl
  intros; assumption
def body_read_instruction : List Stmt := by
  refine (?f : ∀ n a b d r t s u v p, rawSt 20 = some (.FunctionDef n a b d r t s u v p) → ∀ x : List Stmt, b = x → List Stmt) _ _ _ _ _ _ _ _ _ _ rfl ?x ?h
  case h => (try simp only [atoms_all]); exact rfl
  intros; assumption
def scope_read_instruction : Scope := by
  refine (?f : ∀ n a b d r t s u v p, rawSt 20 = some (.FunctionDef n a b d r t s u v p) → ∀ x : Scope, s = x → Scope) _ _ _ _ _ _ _ _ _ _ rfl ?x ?h
  case h => (try simp only [atoms_all]); exact rfl
  intros; assumption
noncomputable def pos_read_instruction : Pos := by
  refine (?f : ∀ n a b d r t s u v p, rawSt 20 = some (.FunctionDef n a b d r t s u v p) → ∀ x : Pos, p = x → Pos) _ _ _ _ _ _ _ _ _ _ rfl ?x ?h
  case h => (try simp only [atoms_all]); exact rfl
  intros; assumption
def st_read_instruction : Stmt := .FunctionDef a_read_instruction args_read_instruction body_read_instruction [] none [] scope_read_instruction none a_read_instruction pos_read_instruction
def args_read_label : Arguments := by
  refine (?f : ∀ n a b d r t s u v p, rawSt 21 = some (.FunctionDef n a b d r t s u v p) → ∀ x : Arguments, a = x → Arguments) _ _ _ _ _ _ _ _ _ _ rfl ?x ?h
  case h => (try simp only [atoms_all]); exact rfl
  intros; assumption
def body_read_label : List Stmt := by
  refine (?f : ∀ n a b d r t s u v p, rawSt 21 = some (.FunctionDef n a b d r t s u v p) → ∀ x : List Stmt, b = x → List Stmt) _ _ _ _ _ _ _ _ _ _ rfl ?x ?h
  case h => (try simp only [atoms_all]); exact rfl
  intros; assumption
def scope_read_label : Scope := by
  refine (?f : ∀ n a b d r t s u v p, rawSt 21 = some (.FunctionDef n a b d r t s u v p) → ∀ x : Scope, s = x → Scope) _ _ _ _ _ _ _ _ _ _ rfl ?x ?h
  case h => (try simp only [atoms_all]); exact rfl
  intros; assumption
noncomputable def pos_read_label : Pos := by
  refine (?f : ∀ n a b d r t s u v p, rawSt 21 = some (.FunctionDef n a b d r t s u v p) → ∀ x : Pos, p = x → Pos) _ _ _ _ _ _ _ _ _ _ rfl ?x ?h
  case h => (try simp only [atoms_all]); exact rfl
  intros; assumption
def st_read_label : Stmt := .FunctionDef a_read_label args_read_label body_read_label [] none [] scope_read_label none a_read_label pos_read_label
def args_read_instructions : Arguments := by
  refine (?f : ∀ n a b d r t s u v p, rawSt 22 = some (.FunctionDef n a b d r t s u v p) → ∀ x : Arguments, a = x → Arguments) _ _ _ _ _ _ _ _ _ _ rfl ?x ?h
  case h => (try simp only [atoms_all]); exact rfl
  intros; assumption
def body_read_instructions : List Stmt := by
  refine (?f : ∀ n a b d r t s u v p, rawSt 22 = some (.FunctionDef n a b d r t s u v p) → ∀ x : List Stmt, b = x → List Stmt) _ _ _ _ _ _ _ _ _ _ rfl ?x ?h
  case h => (try simp only [atoms_all]); exact rfl
  intros; assumption
def scope_read_instructions : Scope := by
  refine (?f : ∀ n a b d r t s u v p, rawSt 22 = some (.FunctionDef n a b d r t s u v p) → ∀ x : Scope, s = x → Scope) _ _ _ _ _ _ _ _ _ _ rfl ?x ?h
  case h => (try simp only [atoms_all]); exact rfl
  intros; assumption
noncomputable def pos_read_instructions : Pos := by
  refine (?f : ∀ n a b d r t s u v p, rawSt 22 = some (.FunctionDef n a b d r t s u v p) → ∀ x : Pos, p = x → Pos) _ _ _ _ _ _ _ _ _ _ rfl ?x ?h
  case h => (try simp only [atoms_all]); exact rfl
  intros; assumption
def st_read_instructions : Stmt := .FunctionDef a_read_instructions args_read_instructions body_read_instructions [] none [] scope_read_instructions none a_read_instructions pos_read_instructions
def args_read_procedure : Arguments := by
  refine (?f : ∀ n a b d r t s u v p, rawSt 23 = some (.FunctionDef n a b d r t s u v p) → ∀ x : Arguments, a = x → Arguments) _ _ _ _ _ _ _ _ _ _ rfl ?x ?h
  case h => (try simp only [atoms_all]); exact rfl
  intros; assumption
def body_read_procedure : List Stmt := by
  refine (?f : ∀ n a b d r t s u v p, rawSt 23 = some (.FunctionDef n a b d r t s u v p) → ∀ x : List Stmt, b = x → List Stmt) _ _ _ _ _ _ _ _ _ _ rfl ?x ?h
  case h => (try simp only [atoms_all]); exact rfl
  intros; assumption
def scope_read_procedure : Scope := by
  refine (?f : ∀ n a b d r t s u v p, rawSt 23 = some (.FunctionDef n a b d r t s u v p) → ∀ x : Scope, s = x → Scope) _ _ _ _ _ _ _ _ _ _ rfl ?x ?h
  case h => (try simp only [atoms_all]); exact rfl
  intros; assumption
noncomputable def pos_read_procedure : Pos := by
  refine (?f : ∀ n a b d r t s u v p, rawSt 23 = some (.FunctionDef n a b d r t s u v p) → ∀ x : Pos, p = x → Pos) _ _ _ _ _ _ _ _ _ _ rfl ?x ?h
  case h => (try simp only [atoms_all]); exact rfl
  intros; assumption
def st_read_procedure : Stmt := .FunctionDef a_read_procedure args_read_procedure body_read_procedure [] none [] scope_read_procedure none a_read_procedure pos_read_procedure
def args_read_procedures : Arguments := by
  refine (?f : ∀ n a b d r t s u v p, rawSt 24 = some (.FunctionDef n a b d r t s u v p) → ∀ x : Arguments, a = x → Arguments) _ _ _ _ _ _ _ _ _ _ rfl ?x ?h
  case h => (try simp only [atoms_all]); exact rfl
  intros; assumption
def body_read_procedures : List Stmt := by
  refine (?f : ∀ n a b d r t s u v p, rawSt 24 = some (.FunctionDef n a b d r t s u v p) → ∀ x : List Stmt, b = x → List Stmt) _ _ _ _ _ _ _ _ _ _ rfl ?x ?h
  case h => (try simp only [atoms_all]); exact rfl
  intros; assumption
def scope_read_procedures : Scope := by
  refine (?f : ∀ n a b d r t s u v p, rawSt 24 = some (.FunctionDef n a b d r t s u v p) → ∀ x : Scope, s = x → Scope) _ _ _ _ _ _ _ _ _ _ rfl ?x ?h
  case h => (try simp only [atoms_all]); exact rfl
  intros; assumption
noncomputable def pos_read_procedures : Pos := by
  refine (?f : ∀ n a b d r t s u v p, rawSt 24 = some (.FunctionDef n a b d r t s u v p) → ∀ x : Pos, p = x → Pos) _ _ _ _ _ _ _ _ _ _ rfl ?x ?h
  case h => (try simp only [atoms_all]); exact rfl
  intros; assumption
def st_read_procedures : Stmt := .FunctionDef a_read_procedures args_read_procedures body_read_procedures [] none [] scope_read_procedures none a_read_procedures pos_read_procedures
def args_read_code : Arguments := by
  refine (?f : ∀ n a b d r t s u v p, rawSt 25 = some (.FunctionDef n a b d r t s u v p) → ∀ x : Arguments, a = x → Arguments) _ _ _ _ _ _ _ _ _ _ rfl ?x ?h
  case h => (try simp only [atoms_all]); exact rfl
  intros; assumption
def body_read_code : List Stmt := by
  refine (?f : ∀ n a b d r t s u v p, rawSt 25 = some (.FunctionDef n a b d r t s u v p) → ∀ x : List Stmt, b = x → List Stmt) _ _ _ _ _ _ _ _ _ _ rfl ?x ?h
  case h => (try simp only [atoms_all]); exact rfl
  intros; assumption
def scope_read_code : Scope := by
  refine (?f : ∀ n a b d r t s u v p, rawSt 25 = some (.FunctionDef n a b d r t s u v p) → ∀ x : Scope, s = x → Scope) _ _ _ _ _ _ _ _ _ _ rfl ?x ?h
  case h => (try simp only [atoms_all]); exact rfl
  intros; assumption
noncomputable def pos_read_code : Pos := by
  refine (?f : ∀ n a b d r t s u v p, rawSt 25 = some (.FunctionDef n a b d r t s u v p) → ∀ x : Pos, p = x → Pos) _ _ _ _ _ _ _ _ _ _ rfl ?x ?h
  case h => (try simp only [atoms_all]); exact rfl
  intros; assumption
def st_read_code : Stmt := .FunctionDef a_read_code args_read_code body_read_code [] none [] scope_read_code none a_read_code pos_read_code
def st_26 : Stmt := by
  refine (?f : ∀ s, rawSt 26 = some s → ∀ x : Stmt, s = x → Stmt) _ rfl ?x ?h
  case h => (first | (simp only [atoms_all]; exact rfl) | exact rfl)
  exact fun _ _ x _ => x
def args_law_pot : Arguments := by
  refine (?f : ∀ n a b d r t s u v p, rawSt 27 = some (.FunctionDef n a b d r t s u v p) → ∀ x : Arguments, a = x → Arguments) _ _ _ _ _ _ _ _ _ _ rfl ?x ?h
  case h => (try simp only [atoms_all]); exact rfl
  intros; assumption
def body_law_pot : List Stmt := by
  refine (?f : ∀ n a b d r t s u v p, rawSt 27 = some (.FunctionDef n a b d r t s u v p) → ∀ x : List Stmt, b = x → List Stmt) _ _ _ _ _ _ _ _ _ _ rfl ?x ?h
  case h => (try simp only [atoms_all]); exact rfl
  intros; assumption
def scope_law_pot : Scope := by
  refine (?f : ∀ n a b d r t s u v p, rawSt 27 = some (.FunctionDef n a b d r t s u v p) → ∀ x : Scope, s = x → Scope) _ _ _ _ _ _ _ _ _ _ rfl ?x ?h
  case h => (try simp only [atoms_all]); exact rfl
  intros; assumption
noncomputable def pos_law_pot : Pos := by
  refine (?f : ∀ n a b d r t s u v p, rawSt 27 = some (.FunctionDef n a b d r t s u v p) → ∀ x : Pos, p = x → Pos) _ _ _ _ _ _ _ _ _ _ rfl ?x ?h
  case h => (try simp only [atoms_all]); exact rfl
  intros; assumption
def st_law_pot : Stmt := .FunctionDef a__law_pot args_law_pot body_law_pot [] none [] scope_law_pot none a__law_pot pos_law_pot
def args_law_dip : Arguments := by
  refine (?f : ∀ n a b d r t s u v p, rawSt 28 = some (.FunctionDef n a b d r t s u v p) → ∀ x : Arguments, a = x → Arguments) _ _ _ _ _ _ _ _ _ _ rfl ?x ?h
  case h => (try simp only [atoms_all]); exact rfl
  intros; assumption
def body_law_dip : List Stmt := by
  refine (?f : ∀ n a b d r t s u v p, rawSt 28 = some (.FunctionDef n a b d r t s u v p) → ∀ x : List Stmt, b = x → List Stmt) _ _ _ _ _ _ _ _ _ _ rfl ?x ?h
  case h => (try simp only [atoms_all]); exact rfl
  intros; assumption
def scope_law_dip : Scope := by
  refine (?f : ∀ n a b d r t s u v p, rawSt 28 = some (.FunctionDef n a b d r t s u v p) → ∀ x : Scope, s = x → Scope) _ _ _ _ _ _ _ _ _ _ rfl ?x ?h
  case h => (try simp only [atoms_all]); exact rfl
  intros; assumption
noncomputable def pos_law_dip : Pos := by
  refine (?f : ∀ n a b d r t s u v p, rawSt 28 = some (.FunctionDef n a b d r t s u v p) → ∀ x : Pos, p = x → Pos) _ _ _ _ _ _ _ _ _ _ rfl ?x ?h
  case h => (try simp only [atoms_all]); exact rfl
  intros; assumption
def st_law_dip : Stmt := .FunctionDef a__law_dip args_law_dip body_law_dip [] none [] scope_law_dip none a__law_dip pos_law_dip
def args_law_names : Arguments := by
  refine (?f : ∀ n a b d r t s u v p, rawSt 29 = some (.FunctionDef n a b d r t s u v p) → ∀ x : Arguments, a = x → Arguments) _ _ _ _ _ _ _ _ _ _ rfl ?x ?h
  case h => (try simp only [atoms_all]); exact rfl
  intros; assumption
def body_law_names : List Stmt := by
  refine (?f : ∀ n a b d r t s u v p, rawSt 29 = some (.FunctionDef n a b d r t s u v p) → ∀ x : List Stmt, b = x → List Stmt) _ _ _ _ _ _ _ _ _ _ rfl ?x ?h
  case h => (try simp only [atoms_all]); exact rfl
  intros; assumption
def scope_law_names : Scope := by
  refine (?f : ∀ n a b d r t s u v p, rawSt 29 = some (.FunctionDef n a b d r t s u v p) → ∀ x : Scope, s = x → Scope) _ _ _ _ _ _ _ _ _ _ rfl ?x ?h
  case h => (try simp only [atoms_all]); exact rfl
  intros; assumption
noncomputable def pos_law_names : Pos := by
  refine (?f : ∀ n a b d r t s u v p, rawSt 29 = some (.FunctionDef n a b d r t s u v p) → ∀ x : Pos, p = x → Pos) _ _ _ _ _ _ _ _ _ _ rfl ?x ?h
  case h => (try simp only [atoms_all]); exact rfl
  intros; assumption
def st_law_names : Stmt := .FunctionDef a__law_names args_law_names body_law_names [] none [] scope_law_names none a__law_names pos_law_names
def args_law_steps : Arguments := by
  refine (?f : ∀ n a b d r t s u v p, rawSt 30 = some (.FunctionDef n a b d r t s u v p) → ∀ x : Arguments, a = x → Arguments) _ _ _ _ _ _ _ _ _ _ rfl ?x ?h
  case h => (try simp only [atoms_all]); exact rfl
  intros; assumption
def body_law_steps : List Stmt := by
  refine (?f : ∀ n a b d r t s u v p, rawSt 30 = some (.FunctionDef n a b d r t s u v p) → ∀ x : List Stmt, b = x → List Stmt) _ _ _ _ _ _ _ _ _ _ rfl ?x ?h
  case h => (try simp only [atoms_all]); exact rfl
  intros; assumption
def scope_law_steps : Scope := by
  refine (?f : ∀ n a b d r t s u v p, rawSt 30 = some (.FunctionDef n a b d r t s u v p) → ∀ x : Scope, s = x → Scope) _ _ _ _ _ _ _ _ _ _ rfl ?x ?h
  case h => (try simp only [atoms_all]); exact rfl
  intros; assumption
noncomputable def pos_law_steps : Pos := by
  refine (?f : ∀ n a b d r t s u v p, rawSt 30 = some (.FunctionDef n a b d r t s u v p) → ∀ x : Pos, p = x → Pos) _ _ _ _ _ _ _ _ _ _ rfl ?x ?h
  case h => (try simp only [atoms_all]); exact rfl
  intros; assumption
def st_law_steps : Stmt := .FunctionDef a__law_steps args_law_steps body_law_steps [] none [] scope_law_steps none a__law_steps pos_law_steps
def args_law_wrong : Arguments := by
  refine (?f : ∀ n a b d r t s u v p, rawSt 31 = some (.FunctionDef n a b d r t s u v p) → ∀ x : Arguments, a = x → Arguments) _ _ _ _ _ _ _ _ _ _ rfl ?x ?h
  case h => (try simp only [atoms_all]); exact rfl
  intros; assumption
def body_law_wrong : List Stmt := by
  refine (?f : ∀ n a b d r t s u v p, rawSt 31 = some (.FunctionDef n a b d r t s u v p) → ∀ x : List Stmt, b = x → List Stmt) _ _ _ _ _ _ _ _ _ _ rfl ?x ?h
  case h => (try simp only [atoms_all]); exact rfl
  intros; assumption
def scope_law_wrong : Scope := by
  refine (?f : ∀ n a b d r t s u v p, rawSt 31 = some (.FunctionDef n a b d r t s u v p) → ∀ x : Scope, s = x → Scope) _ _ _ _ _ _ _ _ _ _ rfl ?x ?h
  case h => (try simp only [atoms_all]); exact rfl
  intros; assumption
noncomputable def pos_law_wrong : Pos := by
  refine (?f : ∀ n a b d r t s u v p, rawSt 31 = some (.FunctionDef n a b d r t s u v p) → ∀ x : Pos, p = x → Pos) _ _ _ _ _ _ _ _ _ _ rfl ?x ?h
  case h => (try simp only [atoms_all]); exact rfl
  intros; assumption
def st_law_wrong : Stmt := .FunctionDef a__law_wrong args_law_wrong body_law_wrong [] none [] scope_law_wrong none a__law_wrong pos_law_wrong
def args_law : Arguments := by
  refine (?f : ∀ n a b d r t s u v p, rawSt 32 = some (.FunctionDef n a b d r t s u v p) → ∀ x : Arguments, a = x → Arguments) _ _ _ _ _ _ _ _ _ _ rfl ?x ?h
  case h => (try simp only [atoms_all]); exact rfl
  intros; assumption
def body_law : List Stmt := by
  refine (?f : ∀ n a b d r t s u v p, rawSt 32 = some (.FunctionDef n a b d r t s u v p) → ∀ x : List Stmt, b = x → List Stmt) _ _ _ _ _ _ _ _ _ _ rfl ?x ?h
  case h => (try simp only [atoms_all]); exact rfl
  intros; assumption
def scope_law : Scope := by
  refine (?f : ∀ n a b d r t s u v p, rawSt 32 = some (.FunctionDef n a b d r t s u v p) → ∀ x : Scope, s = x → Scope) _ _ _ _ _ _ _ _ _ _ rfl ?x ?h
  case h => (try simp only [atoms_all]); exact rfl
  intros; assumption
noncomputable def pos_law : Pos := by
  refine (?f : ∀ n a b d r t s u v p, rawSt 32 = some (.FunctionDef n a b d r t s u v p) → ∀ x : Pos, p = x → Pos) _ _ _ _ _ _ _ _ _ _ rfl ?x ?h
  case h => (try simp only [atoms_all]); exact rfl
  intros; assumption
def st_law : Stmt := .FunctionDef a_law args_law body_law [] none [] scope_law none a_law pos_law
noncomputable def main_scope : Scope := by
  refine (?f : ∀ k n g c m, PySem.Challenge.pw_nt0176_01.main.scope = Scope.mk k n g c m → ∀ x : Scope, Scope.mk k n g c m = x → Scope) _ _ _ _ _ rfl ?x ?h
  case h => (simp only [atoms_all]; exact rfl)
  exact fun _ _ _ _ _ _ x _ => x
def myPw : Program := by
  refine (?f : ∀ (fa : Bool) (mo : List (Str × Const)) ms ps ab ha gi, PySem.Challenge.pw_nt0176_01 = { main := { body := PySem.Challenge.pw_nt0176_01.main.body, scope := PySem.Challenge.pw_nt0176_01.main.scope, futureAnnotations := fa, file := "/claim/cut.py", more := mo }, modules := ms, parses := ps, absent := ab, harvested := ha, given := gi } → Program) _ _ _ _ _ _ _ rfl
  exact fun fa mo ms ps ab ha gi _ => { main := { body := [st_0, st_BadListing, st_2, st_3, st_Procedure, st_operand_pairs, st_label_of, st_labels_met, st_8, st_9, st_registers_text, st_operand_text, st_instruction_text, st_procedure_lines, st_code_text, st_Listing, st_is_figures, st_read_registers, st_read_rows, st_read_operand, st_read_instruction, st_read_label, st_read_instructions, st_read_procedure, st_read_procedures, st_read_code, st_26, st_law_pot, st_law_dip, st_law_names, st_law_steps, st_law_wrong, st_law], scope := main_scope, futureAnnotations := fa, file := t_25, more := mo }, modules := ms, parses := ps, absent := ab, harvested := ha, given := gi }
def myLaw : OpenLaw := { prog := myPw, name := a_law, about := [a_read_code], foot := 6, most := some 63, bound := none, writes := false }
theorem rw_is : PySem.Challenge.rw_nt0176_01 = myLaw := by kernel_rfl
end
section
noncomputable abbrev z_0 : Str := ⟨⟨[60, 109, 111, 100, 117, 108, 101, 62]⟩⟩
noncomputable abbrev z_1 : Str := ⟨⟨[116, 121, 112, 101, 46, 95, 95, 115, 117, 98, 99, 108, 97, 115, 115, 101, 115, 95, 95, 46, 69, 120, 99, 101, 112, 116, 105, 111, 110, 46, 48]⟩⟩
noncomputable abbrev z_2 : Str := ⟨⟨[116, 121, 112, 101, 46, 95, 95, 115, 117, 98, 99, 108, 97, 115, 115, 101, 115, 95, 95, 46, 69, 120, 99, 101, 112, 116, 105, 111, 110, 46, 110]⟩⟩
noncomputable abbrev z_3 : Str := ⟨⟨[95, 95, 100, 111, 99, 95, 95]⟩⟩
noncomputable abbrev z_4 : Str := ⟨⟨[95, 95, 112, 97, 99, 107, 97, 103, 101, 95, 95]⟩⟩
noncomputable abbrev z_5 : Str := ⟨⟨[95, 95, 108, 111, 97, 100, 101, 114, 95, 95]⟩⟩
noncomputable abbrev z_6 : Str := ⟨⟨[95, 95, 115, 112, 101, 99, 95, 95]⟩⟩
noncomputable abbrev z_7 : Str := ⟨⟨[95, 95, 97, 110, 110, 111, 116, 97, 116, 105, 111, 110, 115, 95, 95]⟩⟩
noncomputable abbrev z_8 : Str := ⟨⟨[95, 95, 98, 117, 105, 108, 116, 105, 110, 115, 95, 95]⟩⟩
noncomputable abbrev z_9 : Str := ⟨⟨[95, 95, 102, 105, 108, 101, 95, 95]⟩⟩
noncomputable abbrev z_10 : Str := ⟨⟨[95, 95, 99, 97, 99, 104, 101, 100, 95, 95]⟩⟩
noncomputable abbrev z_11 : Str := ⟨⟨[95, 95, 109, 111, 100, 117, 108, 101, 95, 95]⟩⟩
noncomputable abbrev z_12 : Str := ⟨⟨[95, 95, 113, 117, 97, 108, 110, 97, 109, 101, 95, 95]⟩⟩
noncomputable abbrev z_13 : Str := ⟨⟨[95, 95, 102, 105, 114, 115, 116, 108, 105, 110, 101, 110, 111, 95, 95]⟩⟩
noncomputable abbrev z_14 : Str := ⟨⟨[95, 95, 115, 116, 97, 116, 105, 99, 95, 97, 116, 116, 114, 105, 98, 117, 116, 101, 115, 95, 95]⟩⟩
noncomputable abbrev z_15 : Str := ⟨⟨[66, 97, 100, 76, 105, 115, 116, 105, 110, 103, 46, 95, 95, 105, 110, 105, 116, 95, 95]⟩⟩
noncomputable abbrev z_16 : Str := ⟨⟨[95, 95, 119, 101, 97, 107, 114, 101, 102, 95, 95]⟩⟩
noncomputable abbrev z_17 : Str := ⟨⟨[80, 114, 111, 99, 101, 100, 117, 114, 101, 46, 95, 95, 105, 110, 105, 116, 95, 95]⟩⟩
noncomputable abbrev z_18 : Str := ⟨⟨[95, 95, 100, 105, 99, 116, 95, 95]⟩⟩
noncomputable abbrev z_19 : Str := ⟨⟨[76, 105, 115, 116, 105, 110, 103, 46, 95, 95, 105, 110, 105, 116, 95, 95]⟩⟩
noncomputable abbrev z_20 : Str := ⟨⟨[76, 105, 115, 116, 105, 110, 103, 46, 114, 101, 102, 117, 115, 101]⟩⟩
noncomputable abbrev z_21 : Str := ⟨⟨[76, 105, 115, 116, 105, 110, 103, 46, 105, 115, 95, 97, 116, 95, 101, 110, 100]⟩⟩
noncomputable abbrev z_22 : Str := ⟨⟨[76, 105, 115, 116, 105, 110, 103, 46, 115, 107, 105, 112, 95, 98, 108, 97, 110, 107, 115]⟩⟩
noncomputable abbrev z_23 : Str := ⟨⟨[76, 105, 115, 116, 105, 110, 103, 46, 112, 101, 101, 107]⟩⟩
noncomputable abbrev z_24 : Str := ⟨⟨[76, 105, 115, 116, 105, 110, 103, 46, 119, 111, 114, 100]⟩⟩
noncomputable abbrev z_25 : Str := ⟨⟨[76, 105, 115, 116, 105, 110, 103, 46, 110, 101, 101, 100]⟩⟩
noncomputable abbrev z_26 : Str := ⟨⟨[76, 105, 115, 116, 105, 110, 103, 46, 116, 97, 107, 101, 115]⟩⟩
noncomputable abbrev z_27 : Str := ⟨⟨[76, 105, 115, 116, 105, 110, 103, 46, 99, 111, 117, 110, 116]⟩⟩
noncomputable abbrev z_28 : Str := ⟨⟨[76, 105, 115, 116, 105, 110, 103, 46, 108, 101, 116, 116, 101, 114, 101, 100]⟩⟩
noncomputable abbrev z_29 : Str := ⟨⟨[76, 105, 115, 116, 105, 110, 103, 46, 116, 111, 108, 100, 95, 116, 101, 120, 116]⟩⟩
noncomputable abbrev z_30 : Str := ⟨⟨[76, 105, 115, 116, 105, 110, 103, 46, 101, 110, 100, 95, 108, 105, 110, 101]⟩⟩
noncomputable def life0 : Life := {}
noncomputable abbrev gens0 : Array GenState := ⟨[]⟩
noncomputable def bE : List Stmt := [st_0, st_BadListing, st_2, st_3, st_Procedure, st_operand_pairs, st_label_of, st_labels_met, st_8, st_9, st_registers_text, st_operand_text, st_instruction_text, st_procedure_lines, st_code_text, st_Listing, st_is_figures, st_read_registers, st_read_rows, st_read_operand, st_read_instruction, st_read_label, st_read_instructions, st_read_procedure, st_read_procedures, st_read_code, st_26, st_law_pot, st_law_dip, st_law_names, st_law_steps, st_law_wrong, st_law]
noncomputable def env0 : Env := { scope := main_scope, locals := mainNs, globals := mainNs, cells := [], code := (.ref 13), frame := some 14 }
noncomputable def code0 : Code := .body bE env0
noncomputable def q0 : Pos := ⟨0, 0, 0, 0⟩
noncomputable def pos0 : Pos := ⟨0, 0, 0, 0⟩
noncomputable abbrev m0 : Nat := 11
noncomputable abbrev ann0 : Option Value := (some (.ref 6))
noncomputable def o_0 (P : Params) : Obj := ⟨.type "tuple", none, .seq ⟨[]⟩ 0, ⟨[]⟩⟩
noncomputable def o_1 (P : Params) : Obj := ⟨.none, none, .fields ⟨[]⟩, ⟨[]⟩⟩
def o_2 (P : Params) : Obj := ⟨.type "code", none, .fields ⟨[.str z_0 182, .str z_0 183, .str t_25 184, .int (.ofNat 1) 0, .int (.ofNat 0) 0, .int (.ofNat 0) 0, .int (.ofNat 0) 0, .int (.ofNat 0) 0, .ref 11, .bool false, .int (.ofNat 181) 0, .ref 12, .none, .none, .none, .none, .int (.ofNat 185) 0, .int (.ofNat 1) 0, .str t_25 186]⟩, ⟨[]⟩⟩
noncomputable def o_3 (P : Params) : Obj := ⟨.type "frame", none, .plain, ⟨[(some (.ref 13)), (some (.ref 3)), (some (.ref 3)), none, (some (.str ⟨⟨[95, 95, 109, 97, 105, 110, 95, 95]⟩⟩ 164)), none, (some (.ref 0))]⟩⟩
def heap_pre (P : Params) : Heap := ⟨⟨[boot_o_0 P, boot_o_1 P, boot_o_2 P, boot_o_3 P, boot_o_4 P, boot_o_5 P, boot_o_6 P, boot_o_7 P, boot_o_8 P, boot_o_9 P, boot_o_10 P, o_0 P, o_1 P, o_2 P, o_3 P]⟩, life0⟩
def tree_0 (P : Params) : BT := (.node (boot_o_0 P) (.node (boot_o_1 P) (.node (boot_o_3 P) (.node (boot_o_7 P) .nil .nil) (.node (o_0 P) .nil .nil)) (.node (boot_o_5 P) (.node (boot_o_9 P) .nil .nil) (.node (o_2 P) .nil .nil))) (.node (boot_o_2 P) (.node (boot_o_4 P) (.node (boot_o_8 P) .nil .nil) (.node (o_1 P) .nil .nil)) (.node (boot_o_6 P) (.node (boot_o_10 P) .nil .nil) (.node (o_3 P) .nil .nil))))
noncomputable abbrev n_0 : Nat := 15
noncomputable abbrev k_0 : Nat := 187
noncomputable abbrev kpre : Nat := 187
noncomputable abbrev pos_0 : Pos := ⟨0, 0, 0, 0⟩
noncomputable abbrev stepsPre : Nat := 12
def o_4 (P : Params) : Obj := ⟨.none, none, .dict ⟨[⟨(PyData.keyHash P z_1), .str z_1 216, .int (.ofNat 31) 0⟩, ⟨(PyData.keyHash P z_2), .str z_2 217, .int (.ofNat 1) 0⟩]⟩ 2, ⟨[]⟩⟩
def o_5 (P : Params) : Obj := ⟨.type "dict", none, .dict ⟨[⟨(PyData.keyHash P a___name__), .str a___name__ 165, .str t_1 220⟩, ⟨(PyData.keyHash P z_3), .str z_3 166, .none⟩, ⟨(PyData.keyHash P z_4), .str z_4 167, .none⟩, ⟨(PyData.keyHash P z_5), .str z_5 168, .builtin "__main__.__loader__#opaque"⟩, ⟨(PyData.keyHash P z_6), .str z_6 169, .none⟩, ⟨(PyData.keyHash P z_7), .str z_7 170, .ref 6⟩, ⟨(PyData.keyHash P z_8), .str z_8 171, .ref 4⟩, ⟨(PyData.keyHash P z_9), .str z_9 173, .str t_25 172⟩, ⟨(PyData.keyHash P z_10), .str z_10 174, .none⟩, ⟨(PyData.keyHash P a_BadListing), .str a_BadListing 219, .ref 31⟩]⟩ 10, ⟨[]⟩⟩
noncomputable def o_6 (P : Params) : Obj := ⟨.none, none, .fields ⟨[.int (.ofNat 2) 0, .int (.ofNat 0) 0, .ref 20]⟩, ⟨[]⟩⟩
noncomputable def o_7 (P : Params) : Obj := ⟨.type "tuple", none, .seq ⟨[.type "Exception"]⟩ 0, ⟨[]⟩⟩
noncomputable def o_8 (P : Params) : Obj := ⟨.type "builtin_function_or_method", none, .fields ⟨[.builtin "type.__prepare__", .type "type"]⟩, ⟨[]⟩⟩
def o_9 (P : Params) : Obj := ⟨.type "dict", none, .dict ⟨[⟨(PyData.keyHash P z_11), .str z_11 196, .str t_0 187⟩, ⟨(PyData.keyHash P z_12), .str z_12 198, .str a_BadListing 197⟩, ⟨(PyData.keyHash P z_13), .str z_13 200, .int (.ofNat 2) 199⟩, ⟨(PyData.keyHash P a___init__), .str a___init__ 209, .ref 28⟩, ⟨(PyData.keyHash P z_14), .str z_14 212, .ref 29⟩]⟩ 5, ⟨[]⟩⟩
noncomputable def o_10 (P : Params) : Obj := ⟨.none, none, .fields ⟨[.int (.ofNat 4) 0, .int (.ofNat 4) 0, .ref 27]⟩, ⟨[]⟩⟩
def o_11 (P : Params) : Obj := ⟨.type "code", none, .fields ⟨[.str a_BadListing 191, .str a_BadListing 192, .str t_25 193, .int (.ofNat 2) 0, .int (.ofNat 0) 0, .int (.ofNat 0) 0, .int (.ofNat 0) 0, .int (.ofNat 0) 0, .ref 18, .bool false, .int (.ofNat 181) 0, .ref 19, .none, .none, .none, .none, .int (.ofNat 194) 0, .int (.ofNat 2) 0, .str t_25 195]⟩, ⟨[]⟩⟩
def o_12 (P : Params) : Obj := ⟨.type "frame", none, .plain, ⟨[(some (.ref 20)), (some (.ref 3)), (some (.ref 17)), none, (some (.str t_0 187)), none, (some (.ref 0))]⟩⟩
def o_13 (P : Params) : Obj := ⟨.type "tuple", none, .seq ⟨[.str a_self 204, .str a_line 205, .str a_word 206]⟩ 0, ⟨[]⟩⟩
def o_14 (P : Params) : Obj := ⟨.none, none, .func ⟨a___init__, z_15, args_BadListing_init, .stmts body_BadListing_init, scope_BadListing_init, 0, [], .none, .none, .none, .none, none, .none, .none, 0⟩, ⟨[]⟩⟩
def o_15 (P : Params) : Obj := ⟨.type "code", none, .fields ⟨[.str a___init__ 201, .str z_15 202, .str t_25 203, .int (.ofNat 4) 0, .int (.ofNat 3) 0, .int (.ofNat 0) 0, .int (.ofNat 0) 0, .int (.ofNat 3) 0, .ref 22, .bool true, .int (.ofNat 181) 0, .ref 23, .none, .ref 24, .ref 25, .ref 26, .int (.ofNat 207) 0, .int (.ofNat 4) 0, .str t_25 208]⟩, ⟨[]⟩⟩
def o_16 (P : Params) : Obj := ⟨.type "function", none, .func ⟨a___init__, z_15, args_BadListing_init, .stmts body_BadListing_init, scope_BadListing_init, 3, [], .none, .none, .none, .str t_0 187, none, .ref 27, .none, 0⟩, ⟨[]⟩⟩
def o_17 (P : Params) : Obj := ⟨.type "tuple", none, .seq ⟨[.str a_line 210, .str a_word 211]⟩ 0, ⟨[]⟩⟩
def o_18 (P : Params) : Obj := ⟨.type "dict", none, .dict ⟨[⟨(PyData.keyHash P z_11), .str z_11 196, .str t_0 187⟩, ⟨(PyData.keyHash P z_13), .str z_13 200, .int (.ofNat 2) 199⟩, ⟨(PyData.keyHash P a___init__), .str a___init__ 209, .ref 28⟩, ⟨(PyData.keyHash P z_14), .str z_14 212, .ref 29⟩, ⟨(PyData.keyHash P z_16), .str z_16 214, .ref 32⟩, ⟨(PyData.keyHash P z_3), .str z_3 215, .none⟩]⟩ 3, ⟨[]⟩⟩
def o_19 (P : Params) : Obj := ⟨.type "type", none, .cls ⟨a_BadListing, [.type "Exception"], [.ref 31, .type "Exception", .type "BaseException", .type "object"], 30, a_BadListing, true, [], [], false, none, false⟩, ⟨[(some (.ref 15)), none, (some (.str a_BadListing 189)), (some (.str a_BadListing 197)), (some (.builtin "Exception.__new__")), (some (.bool true))]⟩⟩
def o_20 (P : Params) : Obj := ⟨.type "getset_descriptor", none, .fields ⟨[.str z_16 213, .ref 31, .builtin "ExceptionGroup.__weakref__", .none]⟩, ⟨[]⟩⟩
noncomputable def o_21 (P : Params) : Obj := ⟨.type "super", none, .fields ⟨[.ref 31, .ref 31, .ref 31]⟩, ⟨[]⟩⟩
noncomputable def o_22 (P : Params) : Obj := ⟨.type "builtin_function_or_method", none, .fields ⟨[.builtin "object.__init_subclass__", .ref 31]⟩, ⟨[]⟩⟩
def sts_0 : List Stmt := [st_0, st_BadListing, st_2]
def tree_1 (P : Params) : BT := (.node (boot_o_0 P) (.node (boot_o_1 P) (.node (o_5 P) (.node (boot_o_7 P) (.node (o_7 P) (.node (o_19 P) .nil .nil) .nil) (.node (o_1 P) .nil .nil)) (.node (o_0 P) (.node (o_10 P) .nil .nil) (.node (o_15 P) .nil .nil))) (.node (boot_o_5 P) (.node (boot_o_9 P) (.node (o_9 P) (.node (o_21 P) .nil .nil) .nil) (.node (o_0 P) .nil .nil)) (.node (o_2 P) (.node (o_12 P) .nil .nil) (.node (o_17 P) .nil .nil)))) (.node (o_4 P) (.node (boot_o_4 P) (.node (boot_o_8 P) (.node (o_8 P) (.node (o_20 P) .nil .nil) .nil) (.node (o_13 P) .nil .nil)) (.node (o_6 P) (.node (o_11 P) .nil .nil) (.node (o_16 P) .nil .nil))) (.node (boot_o_6 P) (.node (boot_o_10 P) (.node (o_0 P) (.node (o_22 P) .nil .nil) .nil) (.node (o_14 P) .nil .nil)) (.node (o_3 P) (.node (o_0 P) .nil .nil) (.node (o_18 P) .nil .nil)))))
noncomputable abbrev n_1 : Nat := 35
noncomputable abbrev k_1 : Nat := 222
noncomputable abbrev pos_1 : Pos := ⟨7, 0, 7, 8⟩
theorem pc_0 (w : World) : (fun os => segRunT treeTable myPw w m0 ann0 1 249 ⟨tree_0 w.params, n_0, life0, gens0, boot_drawn, k_0, os⟩ (piecesOf sts_0 env0 code0 pos_0 [topFrame q0])) = (fun os => some (Flow.next, (⟨tree_1 w.params, n_1, life0, gens0, boot_drawn, k_1, os⟩ : SharedT), code0, pos_1)) := by
  rw [PySem.W.Fast.te10110043849684766642, PySem.W.Fast.te14364793385576792824]
  kernel_rfl
def o_23 (P : Params) : Obj := ⟨.type "dict", none, .dict ⟨[⟨(PyData.keyHash P a___name__), .str a___name__ 165, .str t_1 220⟩, ⟨(PyData.keyHash P z_3), .str z_3 166, .none⟩, ⟨(PyData.keyHash P z_4), .str z_4 167, .none⟩, ⟨(PyData.keyHash P z_5), .str z_5 168, .builtin "__main__.__loader__#opaque"⟩, ⟨(PyData.keyHash P z_6), .str z_6 169, .none⟩, ⟨(PyData.keyHash P z_7), .str z_7 170, .ref 6⟩, ⟨(PyData.keyHash P z_8), .str z_8 171, .ref 4⟩, ⟨(PyData.keyHash P z_9), .str z_9 173, .str t_25 172⟩, ⟨(PyData.keyHash P z_10), .str z_10 174, .none⟩, ⟨(PyData.keyHash P a_BadListing), .str a_BadListing 219, .ref 31⟩, ⟨(PyData.keyHash P a_OPERANDS), .str a_OPERANDS 275, .ref 35⟩]⟩ 11, ⟨[]⟩⟩
def o_24 (P : Params) : Obj := ⟨.type "dict", none, .dict ⟨[⟨(PyData.keyHash P a_const), .str a_const 222, .ref 36⟩, ⟨(PyData.keyHash P a_move), .str a_move 225, .ref 37⟩, ⟨(PyData.keyHash P a_global), .str a_global 228, .ref 38⟩, ⟨(PyData.keyHash P a_setglobal), .str a_setglobal 231, .ref 39⟩, ⟨(PyData.keyHash P a_define), .str a_define 234, .ref 40⟩, ⟨(PyData.keyHash P a_free), .str a_free 237, .ref 41⟩, ⟨(PyData.keyHash P a_closure), .str a_closure 240, .ref 42⟩, ⟨(PyData.keyHash P a_fix), .str a_fix 244, .ref 43⟩, ⟨(PyData.keyHash P a_prim), .str a_prim 246, .ref 44⟩, ⟨(PyData.keyHash P a_jump), .str a_jump 250, .ref 45⟩, ⟨(PyData.keyHash P a_branchfalse), .str a_branchfalse 252, .ref 46⟩, ⟨(PyData.keyHash P a_call), .str a_call 255, .ref 47⟩, ⟨(PyData.keyHash P a_give), .str a_give 259, .ref 48⟩]⟩ 13, ⟨[]⟩⟩
def o_25 (P : Params) : Obj := ⟨.type "tuple", none, .seq ⟨[.str a_target 223, .str a_constant 224]⟩ 0, ⟨[]⟩⟩
def o_26 (P : Params) : Obj := ⟨.type "tuple", none, .seq ⟨[.str a_target 226, .str a_source 227]⟩ 0, ⟨[]⟩⟩
def o_27 (P : Params) : Obj := ⟨.type "tuple", none, .seq ⟨[.str a_target 229, .str a_global 230]⟩ 0, ⟨[]⟩⟩
def o_28 (P : Params) : Obj := ⟨.type "tuple", none, .seq ⟨[.str a_global 232, .str a_source 233]⟩ 0, ⟨[]⟩⟩
def o_29 (P : Params) : Obj := ⟨.type "tuple", none, .seq ⟨[.str a_global 235, .str a_source 236]⟩ 0, ⟨[]⟩⟩
def o_30 (P : Params) : Obj := ⟨.type "tuple", none, .seq ⟨[.str a_target 238, .str a_free 239]⟩ 0, ⟨[]⟩⟩
def o_31 (P : Params) : Obj := ⟨.type "tuple", none, .seq ⟨[.str a_target 241, .str a_procedure 242, .str a_sources 243]⟩ 0, ⟨[]⟩⟩
def o_32 (P : Params) : Obj := ⟨.type "tuple", none, .seq ⟨[.str a_rows 245]⟩ 0, ⟨[]⟩⟩
def o_33 (P : Params) : Obj := ⟨.type "tuple", none, .seq ⟨[.str a_target 247, .str a_primitive 248, .str a_sources 249]⟩ 0, ⟨[]⟩⟩
def o_34 (P : Params) : Obj := ⟨.type "tuple", none, .seq ⟨[.str a_label 251]⟩ 0, ⟨[]⟩⟩
def o_35 (P : Params) : Obj := ⟨.type "tuple", none, .seq ⟨[.str a_source 253, .str a_label 254]⟩ 0, ⟨[]⟩⟩
def o_36 (P : Params) : Obj := ⟨.type "tuple", none, .seq ⟨[.str a_source 256, .str a_source 257, .str a_sources 258]⟩ 0, ⟨[]⟩⟩
def o_37 (P : Params) : Obj := ⟨.type "tuple", none, .seq ⟨[.str a_source 260, .str a_sources 261]⟩ 0, ⟨[]⟩⟩
def sts_1 : List Stmt := [st_3]
def tree_2 (P : Params) : BT := (.node (boot_o_0 P) (.node (boot_o_1 P) (.node (o_23 P) (.node (boot_o_7 P) (.node (o_7 P) (.node (o_19 P) .nil .nil) (.node (o_36 P) .nil .nil)) (.node (o_1 P) (.node (o_28 P) .nil .nil) .nil)) (.node (o_0 P) (.node (o_10 P) (.node (o_24 P) .nil .nil) .nil) (.node (o_15 P) (.node (o_32 P) .nil .nil) .nil))) (.node (boot_o_5 P) (.node (boot_o_9 P) (.node (o_9 P) (.node (o_21 P) .nil .nil) .nil) (.node (o_0 P) (.node (o_30 P) .nil .nil) .nil)) (.node (o_2 P) (.node (o_12 P) (.node (o_26 P) .nil .nil) .nil) (.node (o_17 P) (.node (o_34 P) .nil .nil) .nil)))) (.node (o_4 P) (.node (boot_o_4 P) (.node (boot_o_8 P) (.node (o_8 P) (.node (o_20 P) .nil .nil) (.node (o_37 P) .nil .nil)) (.node (o_13 P) (.node (o_29 P) .nil .nil) .nil)) (.node (o_6 P) (.node (o_11 P) (.node (o_25 P) .nil .nil) .nil) (.node (o_16 P) (.node (o_33 P) .nil .nil) .nil))) (.node (boot_o_6 P) (.node (boot_o_10 P) (.node (o_0 P) (.node (o_22 P) .nil .nil) .nil) (.node (o_14 P) (.node (o_31 P) .nil .nil) .nil)) (.node (o_3 P) (.node (o_0 P) (.node (o_27 P) .nil .nil) .nil) (.node (o_18 P) (.node (o_35 P) .nil .nil) .nil)))))
noncomputable abbrev n_2 : Nat := 49
noncomputable abbrev k_2 : Nat := 276
noncomputable abbrev pos_2 : Pos := ⟨8, 0, 8, 8⟩
theorem pc_1f (w : World) : (fun os => segRunT treeTable myPw (w.withFollow "special-get-raises" false) m0 ann0 1 246 ⟨tree_1 (w.withFollow "special-get-raises" false).params, n_1, life0, gens0, boot_drawn, k_1, os⟩ (piecesOf sts_1 env0 code0 pos_1 [topFrame q0])) = (fun os => some (Flow.next, (⟨tree_2 (w.withFollow "special-get-raises" false).params, n_2, life0, gens0, boot_drawn, k_2, os⟩ : SharedT), code0, pos_2)) := by
  rw [PySem.W.Fast.te10110043849684766642, PySem.W.Fast.te14364793385576792824]
  kernel_rfl
theorem pc_1t (w : World) : (fun os => segRunT treeTable myPw (w.withFollow "special-get-raises" true) m0 ann0 1 246 ⟨tree_1 (w.withFollow "special-get-raises" true).params, n_1, life0, gens0, boot_drawn, k_1, os⟩ (piecesOf sts_1 env0 code0 pos_1 [topFrame q0])) = (fun os => some (Flow.next, (⟨tree_2 (w.withFollow "special-get-raises" true).params, n_2, life0, gens0, boot_drawn, k_2, os⟩ : SharedT), code0, pos_2)) := by
  rw [PySem.W.Fast.te10110043849684766642, PySem.W.Fast.te14364793385576792824]
  kernel_rfl
theorem pc_1 (w : World) : (fun os => segRunT treeTable myPw w m0 ann0 1 246 ⟨tree_1 w.params, n_1, life0, gens0, boot_drawn, k_1, os⟩ (piecesOf sts_1 env0 code0 pos_1 [topFrame q0])) = (fun os => some (Flow.next, (⟨tree_2 w.params, n_2, life0, gens0, boot_drawn, k_2, os⟩ : SharedT), code0, pos_2)) := byRow2 "special-get-raises" (P := fun w => (fun os => segRunT treeTable myPw w m0 ann0 1 246 ⟨tree_1 w.params, n_1, life0, gens0, boot_drawn, k_1, os⟩ (piecesOf sts_1 env0 code0 pos_1 [topFrame q0])) = (fun os => some (Flow.next, (⟨tree_2 w.params, n_2, life0, gens0, boot_drawn, k_2, os⟩ : SharedT), code0, pos_2))) pc_1f pc_1t w
def o_38 (P : Params) : Obj := ⟨.type "dict", none, .dict ⟨[⟨(PyData.keyHash P a___name__), .str a___name__ 165, .str t_2 345⟩, ⟨(PyData.keyHash P z_3), .str z_3 166, .none⟩, ⟨(PyData.keyHash P z_4), .str z_4 167, .none⟩, ⟨(PyData.keyHash P z_5), .str z_5 168, .builtin "__main__.__loader__#opaque"⟩, ⟨(PyData.keyHash P z_6), .str z_6 169, .none⟩, ⟨(PyData.keyHash P z_7), .str z_7 170, .ref 6⟩, ⟨(PyData.keyHash P z_8), .str z_8 171, .ref 4⟩, ⟨(PyData.keyHash P z_9), .str z_9 173, .str t_25 172⟩, ⟨(PyData.keyHash P z_10), .str z_10 174, .none⟩, ⟨(PyData.keyHash P a_BadListing), .str a_BadListing 219, .ref 31⟩, ⟨(PyData.keyHash P a_OPERANDS), .str a_OPERANDS 275, .ref 35⟩, ⟨(PyData.keyHash P a_Procedure), .str a_Procedure 318, .ref 65⟩, ⟨(PyData.keyHash P a_operand_pairs), .str a_operand_pairs 325, .ref 76⟩, ⟨(PyData.keyHash P a_label_of), .str a_label_of 334, .ref 83⟩, ⟨(PyData.keyHash P a_labels_met), .str a_labels_met 344, .ref 90⟩]⟩ 15, ⟨[]⟩⟩
noncomputable def o_39 (P : Params) : Obj := ⟨.none, none, .fields ⟨[.int (.ofNat 2) 0, .int (.ofNat 0) 0, .ref 20, .int (.ofNat 9) 0, .int (.ofNat 0) 0, .ref 54, .int (.ofNat 20) 0, .int (.ofNat 0) 0, .ref 75, .int (.ofNat 22) 0, .int (.ofNat 0) 0, .ref 82, .int (.ofNat 27) 0, .int (.ofNat 0) 0, .ref 89]⟩, ⟨[]⟩⟩
def o_40 (P : Params) : Obj := ⟨.type "dict", none, .dict ⟨[⟨(PyData.keyHash P z_11), .str z_11 283, .str t_1 220⟩, ⟨(PyData.keyHash P z_12), .str z_12 285, .str a_Procedure 284⟩, ⟨(PyData.keyHash P z_13), .str z_13 287, .int (.ofNat 9) 286⟩, ⟨(PyData.keyHash P a___init__), .str a___init__ 302, .ref 62⟩, ⟨(PyData.keyHash P z_14), .str z_14 311, .ref 63⟩]⟩ 5, ⟨[]⟩⟩
noncomputable def o_41 (P : Params) : Obj := ⟨.none, none, .fields ⟨[.int (.ofNat 11) 0, .int (.ofNat 4) 0, .ref 61]⟩, ⟨[]⟩⟩
def o_42 (P : Params) : Obj := ⟨.type "code", none, .fields ⟨[.str a_Procedure 278, .str a_Procedure 279, .str t_25 280, .int (.ofNat 9) 0, .int (.ofNat 0) 0, .int (.ofNat 0) 0, .int (.ofNat 0) 0, .int (.ofNat 0) 0, .ref 52, .bool false, .int (.ofNat 181) 0, .ref 53, .none, .none, .none, .none, .int (.ofNat 281) 0, .int (.ofNat 9) 0, .str t_25 282]⟩, ⟨[]⟩⟩
def o_43 (P : Params) : Obj := ⟨.type "frame", none, .plain, ⟨[(some (.ref 54)), (some (.ref 3)), (some (.ref 51)), none, (some (.str t_1 220)), none, (some (.ref 0))]⟩⟩
def o_44 (P : Params) : Obj := ⟨.type "tuple", none, .seq ⟨[.str a_self 291, .str a_number 292, .str a_title 293, .str a_needed 294, .str a_has_rest 295, .str a_is_continuation 296, .str a_registers 297, .str a_free 298, .str a_instructions 299]⟩ 0, ⟨[]⟩⟩
def o_45 (P : Params) : Obj := ⟨.none, none, .func ⟨a___init__, z_17, args_Procedure_init, .stmts body_Procedure_init, scope_Procedure_init, 0, [], .none, .none, .none, .none, none, .none, .none, 0⟩, ⟨[]⟩⟩
def o_46 (P : Params) : Obj := ⟨.type "code", none, .fields ⟨[.str a___init__ 288, .str z_17 289, .str t_25 290, .int (.ofNat 11) 0, .int (.ofNat 9) 0, .int (.ofNat 0) 0, .int (.ofNat 0) 0, .int (.ofNat 3) 0, .ref 56, .bool true, .int (.ofNat 181) 0, .ref 57, .none, .ref 58, .ref 59, .ref 60, .int (.ofNat 300) 0, .int (.ofNat 11) 0, .str t_25 301]⟩, ⟨[]⟩⟩
def o_47 (P : Params) : Obj := ⟨.type "function", none, .func ⟨a___init__, z_17, args_Procedure_init, .stmts body_Procedure_init, scope_Procedure_init, 3, [], .none, .none, .none, .str t_1 220, none, .ref 61, .none, 0⟩, ⟨[]⟩⟩
def o_48 (P : Params) : Obj := ⟨.type "tuple", none, .seq ⟨[.str a_free 303, .str a_has_rest 304, .str a_instructions 305, .str a_is_continuation 306, .str a_needed 307, .str a_number 308, .str a_registers 309, .str a_title 310]⟩ 0, ⟨[]⟩⟩
def o_49 (P : Params) : Obj := ⟨.type "dict", none, .dict ⟨[⟨(PyData.keyHash P z_11), .str z_11 283, .str t_1 220⟩, ⟨(PyData.keyHash P z_13), .str z_13 287, .int (.ofNat 9) 286⟩, ⟨(PyData.keyHash P a___init__), .str a___init__ 302, .ref 62⟩, ⟨(PyData.keyHash P z_14), .str z_14 311, .ref 63⟩, ⟨(PyData.keyHash P z_18), .str z_18 313, .ref 66⟩, ⟨(PyData.keyHash P z_16), .str z_16 315, .ref 67⟩, ⟨(PyData.keyHash P z_3), .str z_3 316, .none⟩]⟩ 4, ⟨[]⟩⟩
def o_50 (P : Params) : Obj := ⟨.type "type", none, .cls ⟨a_Procedure, [.type "object"], [.ref 65, .type "object"], 64, a_Procedure, true, [], [], false, none, false⟩, ⟨[none, none, (some (.str a_Procedure 276)), (some (.str a_Procedure 284)), (some (.builtin "object.__new__")), (some (.bool true))]⟩⟩
def o_51 (P : Params) : Obj := ⟨.type "getset_descriptor", none, .fields ⟨[.str z_18 312, .ref 65, .builtin "function.__dict__", .builtin "function.__dict__#set"]⟩, ⟨[]⟩⟩
def o_52 (P : Params) : Obj := ⟨.type "getset_descriptor", none, .fields ⟨[.str z_16 314, .ref 65, .builtin "ExceptionGroup.__weakref__", .none]⟩, ⟨[]⟩⟩
noncomputable def o_53 (P : Params) : Obj := ⟨.type "super", none, .fields ⟨[.ref 65, .ref 65, .ref 65]⟩, ⟨[]⟩⟩
noncomputable def o_54 (P : Params) : Obj := ⟨.type "builtin_function_or_method", none, .fields ⟨[.builtin "object.__init_subclass__", .ref 65]⟩, ⟨[]⟩⟩
def o_55 (P : Params) : Obj := ⟨.type "tuple", none, .seq ⟨[.str a_instruction 322]⟩ 0, ⟨[]⟩⟩
def o_56 (P : Params) : Obj := ⟨.none, none, .func ⟨a_operand_pairs, a_operand_pairs, args_operand_pairs, .stmts body_operand_pairs, scope_operand_pairs, 0, [], .none, .none, .none, .none, none, .none, .none, 0⟩, ⟨[]⟩⟩
def o_57 (P : Params) : Obj := ⟨.type "code", none, .fields ⟨[.str a_operand_pairs 319, .str a_operand_pairs 320, .str t_25 321, .int (.ofNat 20) 0, .int (.ofNat 1) 0, .int (.ofNat 0) 0, .int (.ofNat 0) 0, .int (.ofNat 3) 0, .ref 70, .bool true, .int (.ofNat 181) 0, .ref 71, .none, .ref 72, .ref 73, .ref 74, .int (.ofNat 323) 0, .int (.ofNat 20) 0, .str t_25 324]⟩, ⟨[]⟩⟩
def o_58 (P : Params) : Obj := ⟨.type "function", none, .func ⟨a_operand_pairs, a_operand_pairs, args_operand_pairs, .stmts body_operand_pairs, scope_operand_pairs, 3, [], .none, .none, .none, .str t_1 220, none, .ref 75, .none, 0⟩, ⟨[]⟩⟩
def o_59 (P : Params) : Obj := ⟨.type "tuple", none, .seq ⟨[.str a_instruction 329, .str a_sort 330, .str a_operand 331]⟩ 0, ⟨[]⟩⟩
def o_60 (P : Params) : Obj := ⟨.none, none, .func ⟨a_label_of, a_label_of, args_label_of, .stmts body_label_of, scope_label_of, 0, [], .none, .none, .none, .none, none, .none, .none, 0⟩, ⟨[]⟩⟩
def o_61 (P : Params) : Obj := ⟨.type "code", none, .fields ⟨[.str a_label_of 326, .str a_label_of 327, .str t_25 328, .int (.ofNat 22) 0, .int (.ofNat 1) 0, .int (.ofNat 0) 0, .int (.ofNat 0) 0, .int (.ofNat 3) 0, .ref 77, .bool true, .int (.ofNat 181) 0, .ref 78, .none, .ref 79, .ref 80, .ref 81, .int (.ofNat 332) 0, .int (.ofNat 22) 0, .str t_25 333]⟩, ⟨[]⟩⟩
def o_62 (P : Params) : Obj := ⟨.type "function", none, .func ⟨a_label_of, a_label_of, args_label_of, .stmts body_label_of, scope_label_of, 3, [], .none, .none, .none, .str t_1 220, none, .ref 82, .none, 0⟩, ⟨[]⟩⟩
def o_63 (P : Params) : Obj := ⟨.type "tuple", none, .seq ⟨[.str a_instructions 338, .str a_found 339, .str a_instruction 340, .str a_label 341]⟩ 0, ⟨[]⟩⟩
def o_64 (P : Params) : Obj := ⟨.none, none, .func ⟨a_labels_met, a_labels_met, args_labels_met, .stmts body_labels_met, scope_labels_met, 0, [], .none, .none, .none, .none, none, .none, .none, 0⟩, ⟨[]⟩⟩
def o_65 (P : Params) : Obj := ⟨.type "code", none, .fields ⟨[.str a_labels_met 335, .str a_labels_met 336, .str t_25 337, .int (.ofNat 27) 0, .int (.ofNat 1) 0, .int (.ofNat 0) 0, .int (.ofNat 0) 0, .int (.ofNat 3) 0, .ref 84, .bool true, .int (.ofNat 181) 0, .ref 85, .none, .ref 86, .ref 87, .ref 88, .int (.ofNat 342) 0, .int (.ofNat 27) 0, .str t_25 343]⟩, ⟨[]⟩⟩
def o_66 (P : Params) : Obj := ⟨.type "function", none, .func ⟨a_labels_met, a_labels_met, args_labels_met, .stmts body_labels_met, scope_labels_met, 3, [], .none, .none, .none, .str t_1 220, none, .ref 89, .none, 0⟩, ⟨[]⟩⟩
def sts_2 : List Stmt := [st_Procedure, st_operand_pairs, st_label_of, st_labels_met, st_8]
def tree_3 (P : Params) : BT := (.node (boot_o_0 P) (.node (boot_o_1 P) (.node (o_38 P) (.node (boot_o_7 P) (.node (o_7 P) (.node (o_19 P) (.node (o_48 P) .nil .nil) .nil) (.node (o_36 P) (.node (o_59 P) .nil .nil) .nil)) (.node (o_1 P) (.node (o_28 P) (.node (o_1 P) .nil .nil) .nil) (.node (o_43 P) (.node (o_0 P) .nil .nil) .nil))) (.node (o_0 P) (.node (o_10 P) (.node (o_24 P) (.node (o_52 P) .nil .nil) .nil) (.node (o_40 P) (.node (o_62 P) .nil .nil) .nil)) (.node (o_15 P) (.node (o_32 P) (.node (o_57 P) .nil .nil) .nil) (.node (o_0 P) .nil .nil)))) (.node (boot_o_5 P) (.node (boot_o_9 P) (.node (o_9 P) (.node (o_21 P) (.node (o_50 P) .nil .nil) .nil) (.node (o_0 P) (.node (o_60 P) .nil .nil) .nil)) (.node (o_0 P) (.node (o_30 P) (.node (o_0 P) .nil .nil) .nil) (.node (o_1 P) (.node (o_65 P) .nil .nil) .nil))) (.node (o_2 P) (.node (o_12 P) (.node (o_26 P) (.node (o_54 P) .nil .nil) .nil) (.node (o_41 P) (.node (o_1 P) .nil .nil) .nil)) (.node (o_17 P) (.node (o_34 P) (.node (o_0 P) .nil .nil) .nil) (.node (o_46 P) .nil .nil))))) (.node (o_4 P) (.node (boot_o_4 P) (.node (boot_o_8 P) (.node (o_8 P) (.node (o_20 P) (.node (o_49 P) .nil .nil) .nil) (.node (o_37 P) (.node (o_0 P) .nil .nil) .nil)) (.node (o_13 P) (.node (o_29 P) (.node (o_55 P) .nil .nil) .nil) (.node (o_0 P) (.node (o_64 P) .nil .nil) .nil))) (.node (o_39 P) (.node (o_11 P) (.node (o_25 P) (.node (o_53 P) .nil .nil) .nil) (.node (o_0 P) (.node (o_0 P) .nil .nil) .nil)) (.node (o_16 P) (.node (o_33 P) (.node (o_58 P) .nil .nil) .nil) (.node (o_45 P) .nil .nil)))) (.node (boot_o_6 P) (.node (boot_o_10 P) (.node (o_0 P) (.node (o_22 P) (.node (o_51 P) .nil .nil) .nil) (.node (o_8 P) (.node (o_61 P) .nil .nil) .nil)) (.node (o_14 P) (.node (o_31 P) (.node (o_56 P) .nil .nil) .nil) (.node (o_44 P) (.node (o_66 P) .nil .nil) .nil))) (.node (o_3 P) (.node (o_0 P) (.node (o_27 P) (.node (o_0 P) .nil .nil) .nil) (.node (o_42 P) (.node (o_63 P) .nil .nil) .nil)) (.node (o_18 P) (.node (o_35 P) (.node (o_1 P) .nil .nil) .nil) (.node (o_47 P) .nil .nil))))))
noncomputable abbrev n_3 : Nat := 91
noncomputable abbrev k_3 : Nat := 347
noncomputable abbrev pos_3 : Pos := ⟨34, 0, 34, 8⟩
theorem pc_2 (w : World) : (fun os => segRunT treeTable myPw w m0 ann0 1 338 ⟨tree_2 w.params, n_2, life0, gens0, boot_drawn, k_2, os⟩ (piecesOf sts_2 env0 code0 pos_2 [topFrame q0])) = (fun os => some (Flow.next, (⟨tree_3 w.params, n_3, life0, gens0, boot_drawn, k_3, os⟩ : SharedT), code0, pos_3)) := by
  rw [PySem.W.Fast.te10110043849684766642, PySem.W.Fast.te14364793385576792824]
  kernel_rfl
def o_67 (P : Params) : Obj := ⟨.type "dict", none, .dict ⟨[⟨(PyData.keyHash P a___name__), .str a___name__ 165, .str t_2 345⟩, ⟨(PyData.keyHash P z_3), .str z_3 166, .none⟩, ⟨(PyData.keyHash P z_4), .str z_4 167, .none⟩, ⟨(PyData.keyHash P z_5), .str z_5 168, .builtin "__main__.__loader__#opaque"⟩, ⟨(PyData.keyHash P z_6), .str z_6 169, .none⟩, ⟨(PyData.keyHash P z_7), .str z_7 170, .ref 6⟩, ⟨(PyData.keyHash P z_8), .str z_8 171, .ref 4⟩, ⟨(PyData.keyHash P z_9), .str z_9 173, .str t_25 172⟩, ⟨(PyData.keyHash P z_10), .str z_10 174, .none⟩, ⟨(PyData.keyHash P a_BadListing), .str a_BadListing 219, .ref 31⟩, ⟨(PyData.keyHash P a_OPERANDS), .str a_OPERANDS 275, .ref 35⟩, ⟨(PyData.keyHash P a_Procedure), .str a_Procedure 318, .ref 65⟩, ⟨(PyData.keyHash P a_operand_pairs), .str a_operand_pairs 325, .ref 76⟩, ⟨(PyData.keyHash P a_label_of), .str a_label_of 334, .ref 83⟩, ⟨(PyData.keyHash P a_labels_met), .str a_labels_met 344, .ref 90⟩, ⟨(PyData.keyHash P a_LETTERS), .str a_LETTERS 368, .ref 91⟩, ⟨(PyData.keyHash P a_registers_text), .str a_registers_text 374, .ref 96⟩, ⟨(PyData.keyHash P a_operand_text), .str a_operand_text 380, .ref 101⟩, ⟨(PyData.keyHash P a_instruction_text), .str a_instruction_text 386, .ref 106⟩, ⟨(PyData.keyHash P a_procedure_lines), .str a_procedure_lines 400, .ref 113⟩, ⟨(PyData.keyHash P a_code_text), .str a_code_text 406, .ref 118⟩]⟩ 21, ⟨[]⟩⟩
noncomputable def o_68 (P : Params) : Obj := ⟨.none, none, .fields ⟨[.int (.ofNat 2) 0, .int (.ofNat 0) 0, .ref 20, .int (.ofNat 9) 0, .int (.ofNat 0) 0, .ref 54, .int (.ofNat 20) 0, .int (.ofNat 0) 0, .ref 75, .int (.ofNat 22) 0, .int (.ofNat 0) 0, .ref 82, .int (.ofNat 27) 0, .int (.ofNat 0) 0, .ref 89, .int (.ofNat 36) 0, .int (.ofNat 0) 0, .ref 95, .int (.ofNat 38) 0, .int (.ofNat 0) 0, .ref 100, .int (.ofNat 46) 0, .int (.ofNat 0) 0, .ref 105, .int (.ofNat 49) 0, .int (.ofNat 0) 0, .ref 112, .int (.ofNat 59) 0, .int (.ofNat 0) 0, .ref 117]⟩, ⟨[]⟩⟩
def o_69 (P : Params) : Obj := ⟨.type "dict", none, .dict ⟨[⟨(PyData.keyHash P a_target), .str a_target 347, .str a_r 348⟩, ⟨(PyData.keyHash P a_source), .str a_source 349, .str a_r 350⟩, ⟨(PyData.keyHash P a_constant), .str a_constant 351, .str a_c 352⟩, ⟨(PyData.keyHash P a_global), .str a_global 353, .str a_g 354⟩, ⟨(PyData.keyHash P a_free), .str a_free 355, .str a_n 356⟩, ⟨(PyData.keyHash P a_procedure), .str a_procedure 357, .str a_p 358⟩, ⟨(PyData.keyHash P a_label), .str a_label 359, .str a_L 360⟩]⟩ 7, ⟨[]⟩⟩
def o_70 (P : Params) : Obj := ⟨.none, none, .func ⟨a_registers_text, a_registers_text, args_registers_text, .stmts body_registers_text, scope_registers_text, 0, [], .none, .none, .none, .none, none, .none, .none, 0⟩, ⟨[]⟩⟩
def o_71 (P : Params) : Obj := ⟨.type "code", none, .fields ⟨[.str a_registers_text 369, .str a_registers_text 370, .str t_25 371, .int (.ofNat 36) 0, .int (.ofNat 1) 0, .int (.ofNat 0) 0, .int (.ofNat 0) 0, .int (.ofNat 3) 0, .ref 92, .bool true, .int (.ofNat 181) 0, .ref 93, .none, .none, .none, .ref 94, .int (.ofNat 372) 0, .int (.ofNat 36) 0, .str t_25 373]⟩, ⟨[]⟩⟩
def o_72 (P : Params) : Obj := ⟨.type "function", none, .func ⟨a_registers_text, a_registers_text, args_registers_text, .stmts body_registers_text, scope_registers_text, 3, [], .none, .none, .none, .str t_2 345, none, .ref 95, .none, 0⟩, ⟨[]⟩⟩
def o_73 (P : Params) : Obj := ⟨.none, none, .func ⟨a_operand_text, a_operand_text, args_operand_text, .stmts body_operand_text, scope_operand_text, 0, [], .none, .none, .none, .none, none, .none, .none, 0⟩, ⟨[]⟩⟩
def o_74 (P : Params) : Obj := ⟨.type "code", none, .fields ⟨[.str a_operand_text 375, .str a_operand_text 376, .str t_25 377, .int (.ofNat 38) 0, .int (.ofNat 3) 0, .int (.ofNat 0) 0, .int (.ofNat 0) 0, .int (.ofNat 3) 0, .ref 97, .bool true, .int (.ofNat 181) 0, .ref 98, .none, .none, .none, .ref 99, .int (.ofNat 378) 0, .int (.ofNat 38) 0, .str t_25 379]⟩, ⟨[]⟩⟩
def o_75 (P : Params) : Obj := ⟨.type "function", none, .func ⟨a_operand_text, a_operand_text, args_operand_text, .stmts body_operand_text, scope_operand_text, 3, [], .none, .none, .none, .str t_2 345, none, .ref 100, .none, 0⟩, ⟨[]⟩⟩
def o_76 (P : Params) : Obj := ⟨.none, none, .func ⟨a_instruction_text, a_instruction_text, args_instruction_text, .stmts body_instruction_text, scope_instruction_text, 0, [], .none, .none, .none, .none, none, .none, .none, 0⟩, ⟨[]⟩⟩
def o_77 (P : Params) : Obj := ⟨.type "code", none, .fields ⟨[.str a_instruction_text 381, .str a_instruction_text 382, .str t_25 383, .int (.ofNat 46) 0, .int (.ofNat 2) 0, .int (.ofNat 0) 0, .int (.ofNat 0) 0, .int (.ofNat 3) 0, .ref 102, .bool true, .int (.ofNat 181) 0, .ref 103, .none, .none, .none, .ref 104, .int (.ofNat 384) 0, .int (.ofNat 46) 0, .str t_25 385]⟩, ⟨[]⟩⟩
def o_78 (P : Params) : Obj := ⟨.type "function", none, .func ⟨a_instruction_text, a_instruction_text, args_instruction_text, .stmts body_instruction_text, scope_instruction_text, 3, [], .none, .none, .none, .str t_2 345, none, .ref 105, .none, 0⟩, ⟨[]⟩⟩
def o_79 (P : Params) : Obj := ⟨.type "tuple", none, .seq ⟨[.str a_procedure 390, .str a_names 391, .str a_words 392, .str a_found 393, .str a_labels 394, .str a_place 395, .str a_instruction 396, .str a_ahead 397]⟩ 0, ⟨[]⟩⟩
def o_80 (P : Params) : Obj := ⟨.none, none, .func ⟨a_procedure_lines, a_procedure_lines, args_procedure_lines, .stmts body_procedure_lines, scope_procedure_lines, 0, [], .none, .none, .none, .none, none, .none, .none, 0⟩, ⟨[]⟩⟩
def o_81 (P : Params) : Obj := ⟨.type "code", none, .fields ⟨[.str a_procedure_lines 387, .str a_procedure_lines 388, .str t_25 389, .int (.ofNat 49) 0, .int (.ofNat 2) 0, .int (.ofNat 0) 0, .int (.ofNat 0) 0, .int (.ofNat 3) 0, .ref 107, .bool true, .int (.ofNat 181) 0, .ref 108, .none, .ref 109, .ref 110, .ref 111, .int (.ofNat 398) 0, .int (.ofNat 49) 0, .str t_25 399]⟩, ⟨[]⟩⟩
def o_82 (P : Params) : Obj := ⟨.type "function", none, .func ⟨a_procedure_lines, a_procedure_lines, args_procedure_lines, .stmts body_procedure_lines, scope_procedure_lines, 3, [], .none, .none, .none, .str t_2 345, none, .ref 112, .none, 0⟩, ⟨[]⟩⟩
def o_83 (P : Params) : Obj := ⟨.none, none, .func ⟨a_code_text, a_code_text, args_code_text, .stmts body_code_text, scope_code_text, 0, [], .none, .none, .none, .none, none, .none, .none, 0⟩, ⟨[]⟩⟩
def o_84 (P : Params) : Obj := ⟨.type "code", none, .fields ⟨[.str a_code_text 401, .str a_code_text 402, .str t_25 403, .int (.ofNat 59) 0, .int (.ofNat 2) 0, .int (.ofNat 0) 0, .int (.ofNat 0) 0, .int (.ofNat 3) 0, .ref 114, .bool true, .int (.ofNat 181) 0, .ref 115, .none, .none, .none, .ref 116, .int (.ofNat 404) 0, .int (.ofNat 59) 0, .str t_25 405]⟩, ⟨[]⟩⟩
def o_85 (P : Params) : Obj := ⟨.type "function", none, .func ⟨a_code_text, a_code_text, args_code_text, .stmts body_code_text, scope_code_text, 3, [], .none, .none, .none, .str t_2 345, none, .ref 117, .none, 0⟩, ⟨[]⟩⟩
def sts_3 : List Stmt := [st_9, st_registers_text, st_operand_text, st_instruction_text, st_procedure_lines, st_code_text]
def tree_4 (P : Params) : BT := (.node (boot_o_0 P) (.node (boot_o_1 P) (.node (o_67 P) (.node (boot_o_7 P) (.node (o_7 P) (.node (o_19 P) (.node (o_48 P) .nil .nil) (.node (o_71 P) .nil .nil)) (.node (o_36 P) (.node (o_59 P) .nil .nil) (.node (o_80 P) .nil .nil))) (.node (o_1 P) (.node (o_28 P) (.node (o_1 P) .nil .nil) (.node (o_1 P) .nil .nil)) (.node (o_43 P) (.node (o_0 P) .nil .nil) .nil))) (.node (o_0 P) (.node (o_10 P) (.node (o_24 P) (.node (o_52 P) .nil .nil) (.node (o_73 P) .nil .nil)) (.node (o_40 P) (.node (o_62 P) .nil .nil) (.node (o_1 P) .nil .nil))) (.node (o_15 P) (.node (o_32 P) (.node (o_57 P) .nil .nil) (.node (o_0 P) .nil .nil)) (.node (o_0 P) (.node (o_69 P) .nil .nil) .nil)))) (.node (boot_o_5 P) (.node (boot_o_9 P) (.node (o_9 P) (.node (o_21 P) (.node (o_50 P) .nil .nil) (.node (o_0 P) .nil .nil)) (.node (o_0 P) (.node (o_60 P) .nil .nil) (.node (o_82 P) .nil .nil))) (.node (o_0 P) (.node (o_30 P) (.node (o_0 P) .nil .nil) (.node (o_77 P) .nil .nil)) (.node (o_1 P) (.node (o_65 P) .nil .nil) .nil))) (.node (o_2 P) (.node (o_12 P) (.node (o_26 P) (.node (o_54 P) .nil .nil) (.node (o_75 P) .nil .nil)) (.node (o_41 P) (.node (o_1 P) .nil .nil) (.node (o_84 P) .nil .nil))) (.node (o_17 P) (.node (o_34 P) (.node (o_0 P) .nil .nil) (.node (o_79 P) .nil .nil)) (.node (o_46 P) (.node (o_1 P) .nil .nil) .nil))))) (.node (o_4 P) (.node (boot_o_4 P) (.node (boot_o_8 P) (.node (o_8 P) (.node (o_20 P) (.node (o_49 P) .nil .nil) (.node (o_72 P) .nil .nil)) (.node (o_37 P) (.node (o_0 P) .nil .nil) (.node (o_81 P) .nil .nil))) (.node (o_13 P) (.node (o_29 P) (.node (o_55 P) .nil .nil) (.node (o_76 P) .nil .nil)) (.node (o_0 P) (.node (o_64 P) .nil .nil) .nil))) (.node (o_68 P) (.node (o_11 P) (.node (o_25 P) (.node (o_53 P) .nil .nil) (.node (o_74 P) .nil .nil)) (.node (o_0 P) (.node (o_0 P) .nil .nil) (.node (o_83 P) .nil .nil))) (.node (o_16 P) (.node (o_33 P) (.node (o_58 P) .nil .nil) (.node (o_1 P) .nil .nil)) (.node (o_45 P) (.node (o_0 P) .nil .nil) .nil)))) (.node (boot_o_6 P) (.node (boot_o_10 P) (.node (o_0 P) (.node (o_22 P) (.node (o_51 P) .nil .nil) (.node (o_1 P) .nil .nil)) (.node (o_8 P) (.node (o_61 P) .nil .nil) (.node (o_0 P) .nil .nil))) (.node (o_14 P) (.node (o_31 P) (.node (o_56 P) .nil .nil) (.node (o_78 P) .nil .nil)) (.node (o_44 P) (.node (o_66 P) .nil .nil) .nil))) (.node (o_3 P) (.node (o_0 P) (.node (o_27 P) (.node (o_0 P) .nil .nil) (.node (o_0 P) .nil .nil)) (.node (o_42 P) (.node (o_63 P) .nil .nil) (.node (o_85 P) .nil .nil))) (.node (o_18 P) (.node (o_35 P) (.node (o_1 P) .nil .nil) (.node (o_0 P) .nil .nil)) (.node (o_47 P) (.node (o_70 P) .nil .nil) .nil))))))
noncomputable abbrev n_4 : Nat := 119
noncomputable abbrev k_4 : Nat := 407
noncomputable abbrev pos_4 : Pos := ⟨59, 0, 63, 51⟩
theorem pc_3f (w : World) : (fun os => segRunT treeTable myPw (w.withFollow "special-get-raises" false) m0 ann0 1 256 ⟨tree_3 (w.withFollow "special-get-raises" false).params, n_3, life0, gens0, boot_drawn, k_3, os⟩ (piecesOf sts_3 env0 code0 pos_3 [topFrame q0])) = (fun os => some (Flow.next, (⟨tree_4 (w.withFollow "special-get-raises" false).params, n_4, life0, gens0, boot_drawn, k_4, os⟩ : SharedT), code0, pos_4)) := by
  rw [PySem.W.Fast.te10110043849684766642, PySem.W.Fast.te14364793385576792824]
  kernel_rfl
theorem pc_3t (w : World) : (fun os => segRunT treeTable myPw (w.withFollow "special-get-raises" true) m0 ann0 1 256 ⟨tree_3 (w.withFollow "special-get-raises" true).params, n_3, life0, gens0, boot_drawn, k_3, os⟩ (piecesOf sts_3 env0 code0 pos_3 [topFrame q0])) = (fun os => some (Flow.next, (⟨tree_4 (w.withFollow "special-get-raises" true).params, n_4, life0, gens0, boot_drawn, k_4, os⟩ : SharedT), code0, pos_4)) := by
  rw [PySem.W.Fast.te10110043849684766642, PySem.W.Fast.te14364793385576792824]
  kernel_rfl
theorem pc_3 (w : World) : (fun os => segRunT treeTable myPw w m0 ann0 1 256 ⟨tree_3 w.params, n_3, life0, gens0, boot_drawn, k_3, os⟩ (piecesOf sts_3 env0 code0 pos_3 [topFrame q0])) = (fun os => some (Flow.next, (⟨tree_4 w.params, n_4, life0, gens0, boot_drawn, k_4, os⟩ : SharedT), code0, pos_4)) := byRow2 "special-get-raises" (P := fun w => (fun os => segRunT treeTable myPw w m0 ann0 1 256 ⟨tree_3 w.params, n_3, life0, gens0, boot_drawn, k_3, os⟩ (piecesOf sts_3 env0 code0 pos_3 [topFrame q0])) = (fun os => some (Flow.next, (⟨tree_4 w.params, n_4, life0, gens0, boot_drawn, k_4, os⟩ : SharedT), code0, pos_4))) pc_3f pc_3t w
def o_86 (P : Params) : Obj := ⟨.type "dict", none, .dict ⟨[⟨(PyData.keyHash P a___name__), .str a___name__ 165, .str t_2 345⟩, ⟨(PyData.keyHash P z_3), .str z_3 166, .none⟩, ⟨(PyData.keyHash P z_4), .str z_4 167, .none⟩, ⟨(PyData.keyHash P z_5), .str z_5 168, .builtin "__main__.__loader__#opaque"⟩, ⟨(PyData.keyHash P z_6), .str z_6 169, .none⟩, ⟨(PyData.keyHash P z_7), .str z_7 170, .ref 6⟩, ⟨(PyData.keyHash P z_8), .str z_8 171, .ref 4⟩, ⟨(PyData.keyHash P z_9), .str z_9 173, .str t_25 172⟩, ⟨(PyData.keyHash P z_10), .str z_10 174, .none⟩, ⟨(PyData.keyHash P a_BadListing), .str a_BadListing 219, .ref 31⟩, ⟨(PyData.keyHash P a_OPERANDS), .str a_OPERANDS 275, .ref 35⟩, ⟨(PyData.keyHash P a_Procedure), .str a_Procedure 318, .ref 65⟩, ⟨(PyData.keyHash P a_operand_pairs), .str a_operand_pairs 325, .ref 76⟩, ⟨(PyData.keyHash P a_label_of), .str a_label_of 334, .ref 83⟩, ⟨(PyData.keyHash P a_labels_met), .str a_labels_met 344, .ref 90⟩, ⟨(PyData.keyHash P a_LETTERS), .str a_LETTERS 368, .ref 91⟩, ⟨(PyData.keyHash P a_registers_text), .str a_registers_text 374, .ref 96⟩, ⟨(PyData.keyHash P a_operand_text), .str a_operand_text 380, .ref 101⟩, ⟨(PyData.keyHash P a_instruction_text), .str a_instruction_text 386, .ref 106⟩, ⟨(PyData.keyHash P a_procedure_lines), .str a_procedure_lines 400, .ref 113⟩, ⟨(PyData.keyHash P a_code_text), .str a_code_text 406, .ref 118⟩, ⟨(PyData.keyHash P a_Listing), .str a_Listing 524, .ref 212⟩]⟩ 22, ⟨[]⟩⟩
noncomputable def o_87 (P : Params) : Obj := ⟨.none, none, .fields ⟨[.int (.ofNat 2) 0, .int (.ofNat 0) 0, .ref 20, .int (.ofNat 9) 0, .int (.ofNat 0) 0, .ref 54, .int (.ofNat 20) 0, .int (.ofNat 0) 0, .ref 75, .int (.ofNat 22) 0, .int (.ofNat 0) 0, .ref 82, .int (.ofNat 27) 0, .int (.ofNat 0) 0, .ref 89, .int (.ofNat 36) 0, .int (.ofNat 0) 0, .ref 95, .int (.ofNat 38) 0, .int (.ofNat 0) 0, .ref 100, .int (.ofNat 46) 0, .int (.ofNat 0) 0, .ref 105, .int (.ofNat 49) 0, .int (.ofNat 0) 0, .ref 112, .int (.ofNat 59) 0, .int (.ofNat 0) 0, .ref 117, .int (.ofNat 64) 0, .int (.ofNat 0) 0, .ref 124]⟩, ⟨[]⟩⟩
def o_88 (P : Params) : Obj := ⟨.type "dict", none, .dict ⟨[⟨(PyData.keyHash P z_11), .str z_11 414, .str t_2 345⟩, ⟨(PyData.keyHash P z_12), .str z_12 416, .str a_Listing 415⟩, ⟨(PyData.keyHash P z_13), .str z_13 418, .int (.ofNat 64) 417⟩, ⟨(PyData.keyHash P a___init__), .str a___init__ 426, .ref 132⟩, ⟨(PyData.keyHash P a_refuse), .str a_refuse 434, .ref 139⟩, ⟨(PyData.keyHash P a_is_at_end), .str a_is_at_end 441, .ref 146⟩, ⟨(PyData.keyHash P a_skip_blanks), .str a_skip_blanks 448, .ref 153⟩, ⟨(PyData.keyHash P a_peek), .str a_peek 456, .ref 160⟩, ⟨(PyData.keyHash P a_word), .str a_word 464, .ref 167⟩, ⟨(PyData.keyHash P a_need), .str a_need 472, .ref 174⟩, ⟨(PyData.keyHash P a_takes), .str a_takes 480, .ref 181⟩, ⟨(PyData.keyHash P a_count), .str a_count 488, .ref 188⟩, ⟨(PyData.keyHash P a_lettered), .str a_lettered 497, .ref 195⟩, ⟨(PyData.keyHash P a_told_text), .str a_told_text 506, .ref 202⟩, ⟨(PyData.keyHash P a_end_line), .str a_end_line 513, .ref 209⟩, ⟨(PyData.keyHash P z_14), .str z_14 517, .ref 210⟩]⟩ 16, ⟨[]⟩⟩
noncomputable def o_89 (P : Params) : Obj := ⟨.none, none, .fields ⟨[.int (.ofNat 66) 0, .int (.ofNat 4) 0, .ref 131, .int (.ofNat 71) 0, .int (.ofNat 4) 0, .ref 138, .int (.ofNat 74) 0, .int (.ofNat 4) 0, .ref 145, .int (.ofNat 77) 0, .int (.ofNat 4) 0, .ref 152, .int (.ofNat 81) 0, .int (.ofNat 4) 0, .ref 159, .int (.ofNat 90) 0, .int (.ofNat 4) 0, .ref 166, .int (.ofNat 97) 0, .int (.ofNat 4) 0, .ref 173, .int (.ofNat 101) 0, .int (.ofNat 4) 0, .ref 180, .int (.ofNat 107) 0, .int (.ofNat 4) 0, .ref 187, .int (.ofNat 113) 0, .int (.ofNat 4) 0, .ref 194, .int (.ofNat 119) 0, .int (.ofNat 4) 0, .ref 201, .int (.ofNat 127) 0, .int (.ofNat 4) 0, .ref 208]⟩, ⟨[]⟩⟩
def o_90 (P : Params) : Obj := ⟨.type "code", none, .fields ⟨[.str a_Listing 409, .str a_Listing 410, .str t_25 411, .int (.ofNat 64) 0, .int (.ofNat 0) 0, .int (.ofNat 0) 0, .int (.ofNat 0) 0, .int (.ofNat 0) 0, .ref 122, .bool false, .int (.ofNat 181) 0, .ref 123, .none, .none, .none, .none, .int (.ofNat 412) 0, .int (.ofNat 64) 0, .str t_25 413]⟩, ⟨[]⟩⟩
def o_91 (P : Params) : Obj := ⟨.type "frame", none, .plain, ⟨[(some (.ref 124)), (some (.ref 3)), (some (.ref 121)), none, (some (.str t_2 345)), none, (some (.ref 0))]⟩⟩
def o_92 (P : Params) : Obj := ⟨.type "tuple", none, .seq ⟨[.str a_self 422, .str a_text 423]⟩ 0, ⟨[]⟩⟩
def o_93 (P : Params) : Obj := ⟨.none, none, .func ⟨a___init__, z_19, args_Listing_init, .stmts body_Listing_init, scope_Listing_init, 0, [], .none, .none, .none, .none, none, .none, .none, 0⟩, ⟨[]⟩⟩
def o_94 (P : Params) : Obj := ⟨.type "code", none, .fields ⟨[.str a___init__ 419, .str z_19 420, .str t_25 421, .int (.ofNat 66) 0, .int (.ofNat 2) 0, .int (.ofNat 0) 0, .int (.ofNat 0) 0, .int (.ofNat 3) 0, .ref 126, .bool true, .int (.ofNat 181) 0, .ref 127, .none, .ref 128, .ref 129, .ref 130, .int (.ofNat 424) 0, .int (.ofNat 66) 0, .str t_25 425]⟩, ⟨[]⟩⟩
def o_95 (P : Params) : Obj := ⟨.type "function", none, .func ⟨a___init__, z_19, args_Listing_init, .stmts body_Listing_init, scope_Listing_init, 3, [], .none, .none, .none, .str t_2 345, none, .ref 131, .none, 0⟩, ⟨[]⟩⟩
def o_96 (P : Params) : Obj := ⟨.type "tuple", none, .seq ⟨[.str a_self 430, .str a_word 431]⟩ 0, ⟨[]⟩⟩
def o_97 (P : Params) : Obj := ⟨.none, none, .func ⟨a_refuse, z_20, args_Listing_refuse, .stmts body_Listing_refuse, scope_Listing_refuse, 0, [], .none, .none, .none, .none, none, .none, .none, 0⟩, ⟨[]⟩⟩
def o_98 (P : Params) : Obj := ⟨.type "code", none, .fields ⟨[.str a_refuse 427, .str z_20 428, .str t_25 429, .int (.ofNat 71) 0, .int (.ofNat 2) 0, .int (.ofNat 0) 0, .int (.ofNat 0) 0, .int (.ofNat 3) 0, .ref 133, .bool true, .int (.ofNat 181) 0, .ref 134, .none, .ref 135, .ref 136, .ref 137, .int (.ofNat 432) 0, .int (.ofNat 71) 0, .str t_25 433]⟩, ⟨[]⟩⟩
def o_99 (P : Params) : Obj := ⟨.type "function", none, .func ⟨a_refuse, z_20, args_Listing_refuse, .stmts body_Listing_refuse, scope_Listing_refuse, 3, [], .none, .none, .none, .str t_2 345, none, .ref 138, .none, 0⟩, ⟨[]⟩⟩
def o_100 (P : Params) : Obj := ⟨.type "tuple", none, .seq ⟨[.str a_self 438]⟩ 0, ⟨[]⟩⟩
def o_101 (P : Params) : Obj := ⟨.none, none, .func ⟨a_is_at_end, z_21, args_Listing_is_at_end, .stmts body_Listing_is_at_end, scope_Listing_is_at_end, 0, [], .none, .none, .none, .none, none, .none, .none, 0⟩, ⟨[]⟩⟩
def o_102 (P : Params) : Obj := ⟨.type "code", none, .fields ⟨[.str a_is_at_end 435, .str z_21 436, .str t_25 437, .int (.ofNat 74) 0, .int (.ofNat 1) 0, .int (.ofNat 0) 0, .int (.ofNat 0) 0, .int (.ofNat 3) 0, .ref 140, .bool true, .int (.ofNat 181) 0, .ref 141, .none, .ref 142, .ref 143, .ref 144, .int (.ofNat 439) 0, .int (.ofNat 74) 0, .str t_25 440]⟩, ⟨[]⟩⟩
def o_103 (P : Params) : Obj := ⟨.type "function", none, .func ⟨a_is_at_end, z_21, args_Listing_is_at_end, .stmts body_Listing_is_at_end, scope_Listing_is_at_end, 3, [], .none, .none, .none, .str t_2 345, none, .ref 145, .none, 0⟩, ⟨[]⟩⟩
def o_104 (P : Params) : Obj := ⟨.type "tuple", none, .seq ⟨[.str a_self 445]⟩ 0, ⟨[]⟩⟩
def o_105 (P : Params) : Obj := ⟨.none, none, .func ⟨a_skip_blanks, z_22, args_Listing_skip_blanks, .stmts body_Listing_skip_blanks, scope_Listing_skip_blanks, 0, [], .none, .none, .none, .none, none, .none, .none, 0⟩, ⟨[]⟩⟩
def o_106 (P : Params) : Obj := ⟨.type "code", none, .fields ⟨[.str a_skip_blanks 442, .str z_22 443, .str t_25 444, .int (.ofNat 77) 0, .int (.ofNat 1) 0, .int (.ofNat 0) 0, .int (.ofNat 0) 0, .int (.ofNat 3) 0, .ref 147, .bool true, .int (.ofNat 181) 0, .ref 148, .none, .ref 149, .ref 150, .ref 151, .int (.ofNat 446) 0, .int (.ofNat 77) 0, .str t_25 447]⟩, ⟨[]⟩⟩
def o_107 (P : Params) : Obj := ⟨.type "function", none, .func ⟨a_skip_blanks, z_22, args_Listing_skip_blanks, .stmts body_Listing_skip_blanks, scope_Listing_skip_blanks, 3, [], .none, .none, .none, .str t_2 345, none, .ref 152, .none, 0⟩, ⟨[]⟩⟩
def o_108 (P : Params) : Obj := ⟨.type "tuple", none, .seq ⟨[.str a_self 452, .str a_end 453]⟩ 0, ⟨[]⟩⟩
def o_109 (P : Params) : Obj := ⟨.none, none, .func ⟨a_peek, z_23, args_Listing_peek, .stmts body_Listing_peek, scope_Listing_peek, 0, [], .none, .none, .none, .none, none, .none, .none, 0⟩, ⟨[]⟩⟩
def o_110 (P : Params) : Obj := ⟨.type "code", none, .fields ⟨[.str a_peek 449, .str z_23 450, .str t_25 451, .int (.ofNat 81) 0, .int (.ofNat 1) 0, .int (.ofNat 0) 0, .int (.ofNat 0) 0, .int (.ofNat 3) 0, .ref 154, .bool true, .int (.ofNat 181) 0, .ref 155, .none, .ref 156, .ref 157, .ref 158, .int (.ofNat 454) 0, .int (.ofNat 81) 0, .str t_25 455]⟩, ⟨[]⟩⟩
def o_111 (P : Params) : Obj := ⟨.type "function", none, .func ⟨a_peek, z_23, args_Listing_peek, .stmts body_Listing_peek, scope_Listing_peek, 3, [], .none, .none, .none, .str t_2 345, none, .ref 159, .none, 0⟩, ⟨[]⟩⟩
def o_112 (P : Params) : Obj := ⟨.type "tuple", none, .seq ⟨[.str a_self 460, .str a_found 461]⟩ 0, ⟨[]⟩⟩
def o_113 (P : Params) : Obj := ⟨.none, none, .func ⟨a_word, z_24, args_Listing_word, .stmts body_Listing_word, scope_Listing_word, 0, [], .none, .none, .none, .none, none, .none, .none, 0⟩, ⟨[]⟩⟩
def o_114 (P : Params) : Obj := ⟨.type "code", none, .fields ⟨[.str a_word 457, .str z_24 458, .str t_25 459, .int (.ofNat 90) 0, .int (.ofNat 1) 0, .int (.ofNat 0) 0, .int (.ofNat 0) 0, .int (.ofNat 3) 0, .ref 161, .bool true, .int (.ofNat 181) 0, .ref 162, .none, .ref 163, .ref 164, .ref 165, .int (.ofNat 462) 0, .int (.ofNat 90) 0, .str t_25 463]⟩, ⟨[]⟩⟩
def o_115 (P : Params) : Obj := ⟨.type "function", none, .func ⟨a_word, z_24, args_Listing_word, .stmts body_Listing_word, scope_Listing_word, 3, [], .none, .none, .none, .str t_2 345, none, .ref 166, .none, 0⟩, ⟨[]⟩⟩
def o_116 (P : Params) : Obj := ⟨.type "tuple", none, .seq ⟨[.str a_self 468, .str a_wanted 469]⟩ 0, ⟨[]⟩⟩
def o_117 (P : Params) : Obj := ⟨.none, none, .func ⟨a_need, z_25, args_Listing_need, .stmts body_Listing_need, scope_Listing_need, 0, [], .none, .none, .none, .none, none, .none, .none, 0⟩, ⟨[]⟩⟩
def o_118 (P : Params) : Obj := ⟨.type "code", none, .fields ⟨[.str a_need 465, .str z_25 466, .str t_25 467, .int (.ofNat 97) 0, .int (.ofNat 2) 0, .int (.ofNat 0) 0, .int (.ofNat 0) 0, .int (.ofNat 3) 0, .ref 168, .bool true, .int (.ofNat 181) 0, .ref 169, .none, .ref 170, .ref 171, .ref 172, .int (.ofNat 470) 0, .int (.ofNat 97) 0, .str t_25 471]⟩, ⟨[]⟩⟩
def o_119 (P : Params) : Obj := ⟨.type "function", none, .func ⟨a_need, z_25, args_Listing_need, .stmts body_Listing_need, scope_Listing_need, 3, [], .none, .none, .none, .str t_2 345, none, .ref 173, .none, 0⟩, ⟨[]⟩⟩
def o_120 (P : Params) : Obj := ⟨.type "tuple", none, .seq ⟨[.str a_self 476, .str a_wanted 477]⟩ 0, ⟨[]⟩⟩
def o_121 (P : Params) : Obj := ⟨.none, none, .func ⟨a_takes, z_26, args_Listing_takes, .stmts body_Listing_takes, scope_Listing_takes, 0, [], .none, .none, .none, .none, none, .none, .none, 0⟩, ⟨[]⟩⟩
def o_122 (P : Params) : Obj := ⟨.type "code", none, .fields ⟨[.str a_takes 473, .str z_26 474, .str t_25 475, .int (.ofNat 101) 0, .int (.ofNat 2) 0, .int (.ofNat 0) 0, .int (.ofNat 0) 0, .int (.ofNat 3) 0, .ref 175, .bool true, .int (.ofNat 181) 0, .ref 176, .none, .ref 177, .ref 178, .ref 179, .int (.ofNat 478) 0, .int (.ofNat 101) 0, .str t_25 479]⟩, ⟨[]⟩⟩
def o_123 (P : Params) : Obj := ⟨.type "function", none, .func ⟨a_takes, z_26, args_Listing_takes, .stmts body_Listing_takes, scope_Listing_takes, 3, [], .none, .none, .none, .str t_2 345, none, .ref 180, .none, 0⟩, ⟨[]⟩⟩
def o_124 (P : Params) : Obj := ⟨.type "tuple", none, .seq ⟨[.str a_self 484, .str a_found 485]⟩ 0, ⟨[]⟩⟩
def o_125 (P : Params) : Obj := ⟨.none, none, .func ⟨a_count, z_27, args_Listing_count, .stmts body_Listing_count, scope_Listing_count, 0, [], .none, .none, .none, .none, none, .none, .none, 0⟩, ⟨[]⟩⟩
def o_126 (P : Params) : Obj := ⟨.type "code", none, .fields ⟨[.str a_count 481, .str z_27 482, .str t_25 483, .int (.ofNat 107) 0, .int (.ofNat 1) 0, .int (.ofNat 0) 0, .int (.ofNat 0) 0, .int (.ofNat 3) 0, .ref 182, .bool true, .int (.ofNat 181) 0, .ref 183, .none, .ref 184, .ref 185, .ref 186, .int (.ofNat 486) 0, .int (.ofNat 107) 0, .str t_25 487]⟩, ⟨[]⟩⟩
def o_127 (P : Params) : Obj := ⟨.type "function", none, .func ⟨a_count, z_27, args_Listing_count, .stmts body_Listing_count, scope_Listing_count, 3, [], .none, .none, .none, .str t_2 345, none, .ref 187, .none, 0⟩, ⟨[]⟩⟩
def o_128 (P : Params) : Obj := ⟨.type "tuple", none, .seq ⟨[.str a_self 492, .str a_letter 493, .str a_found 494]⟩ 0, ⟨[]⟩⟩
def o_129 (P : Params) : Obj := ⟨.none, none, .func ⟨a_lettered, z_28, args_Listing_lettered, .stmts body_Listing_lettered, scope_Listing_lettered, 0, [], .none, .none, .none, .none, none, .none, .none, 0⟩, ⟨[]⟩⟩
def o_130 (P : Params) : Obj := ⟨.type "code", none, .fields ⟨[.str a_lettered 489, .str z_28 490, .str t_25 491, .int (.ofNat 113) 0, .int (.ofNat 2) 0, .int (.ofNat 0) 0, .int (.ofNat 0) 0, .int (.ofNat 3) 0, .ref 189, .bool true, .int (.ofNat 181) 0, .ref 190, .none, .ref 191, .ref 192, .ref 193, .int (.ofNat 495) 0, .int (.ofNat 113) 0, .str t_25 496]⟩, ⟨[]⟩⟩
def o_131 (P : Params) : Obj := ⟨.type "function", none, .func ⟨a_lettered, z_28, args_Listing_lettered, .stmts body_Listing_lettered, scope_Listing_lettered, 3, [], .none, .none, .none, .str t_2 345, none, .ref 194, .none, 0⟩, ⟨[]⟩⟩
def o_132 (P : Params) : Obj := ⟨.type "tuple", none, .seq ⟨[.str a_self 501, .str a_length 502, .str a_first 503]⟩ 0, ⟨[]⟩⟩
def o_133 (P : Params) : Obj := ⟨.none, none, .func ⟨a_told_text, z_29, args_Listing_told_text, .stmts body_Listing_told_text, scope_Listing_told_text, 0, [], .none, .none, .none, .none, none, .none, .none, 0⟩, ⟨[]⟩⟩
def o_134 (P : Params) : Obj := ⟨.type "code", none, .fields ⟨[.str a_told_text 498, .str z_29 499, .str t_25 500, .int (.ofNat 119) 0, .int (.ofNat 1) 0, .int (.ofNat 0) 0, .int (.ofNat 0) 0, .int (.ofNat 3) 0, .ref 196, .bool true, .int (.ofNat 181) 0, .ref 197, .none, .ref 198, .ref 199, .ref 200, .int (.ofNat 504) 0, .int (.ofNat 119) 0, .str t_25 505]⟩, ⟨[]⟩⟩
def o_135 (P : Params) : Obj := ⟨.type "function", none, .func ⟨a_told_text, z_29, args_Listing_told_text, .stmts body_Listing_told_text, scope_Listing_told_text, 3, [], .none, .none, .none, .str t_2 345, none, .ref 201, .none, 0⟩, ⟨[]⟩⟩
def o_136 (P : Params) : Obj := ⟨.type "tuple", none, .seq ⟨[.str a_self 510]⟩ 0, ⟨[]⟩⟩
def o_137 (P : Params) : Obj := ⟨.none, none, .func ⟨a_end_line, z_30, args_Listing_end_line, .stmts body_Listing_end_line, scope_Listing_end_line, 0, [], .none, .none, .none, .none, none, .none, .none, 0⟩, ⟨[]⟩⟩
def o_138 (P : Params) : Obj := ⟨.type "code", none, .fields ⟨[.str a_end_line 507, .str z_30 508, .str t_25 509, .int (.ofNat 127) 0, .int (.ofNat 1) 0, .int (.ofNat 0) 0, .int (.ofNat 0) 0, .int (.ofNat 3) 0, .ref 203, .bool true, .int (.ofNat 181) 0, .ref 204, .none, .ref 205, .ref 206, .ref 207, .int (.ofNat 511) 0, .int (.ofNat 127) 0, .str t_25 512]⟩, ⟨[]⟩⟩
def o_139 (P : Params) : Obj := ⟨.type "function", none, .func ⟨a_end_line, z_30, args_Listing_end_line, .stmts body_Listing_end_line, scope_Listing_end_line, 3, [], .none, .none, .none, .str t_2 345, none, .ref 208, .none, 0⟩, ⟨[]⟩⟩
def o_140 (P : Params) : Obj := ⟨.type "tuple", none, .seq ⟨[.str a_line 514, .str a_place 515, .str a_text 516]⟩ 0, ⟨[]⟩⟩
def o_141 (P : Params) : Obj := ⟨.type "dict", none, .dict ⟨[⟨(PyData.keyHash P z_11), .str z_11 414, .str t_2 345⟩, ⟨(PyData.keyHash P z_13), .str z_13 418, .int (.ofNat 64) 417⟩, ⟨(PyData.keyHash P a___init__), .str a___init__ 426, .ref 132⟩, ⟨(PyData.keyHash P a_refuse), .str a_refuse 434, .ref 139⟩, ⟨(PyData.keyHash P a_is_at_end), .str a_is_at_end 441, .ref 146⟩, ⟨(PyData.keyHash P a_skip_blanks), .str a_skip_blanks 448, .ref 153⟩, ⟨(PyData.keyHash P a_peek), .str a_peek 456, .ref 160⟩, ⟨(PyData.keyHash P a_word), .str a_word 464, .ref 167⟩, ⟨(PyData.keyHash P a_need), .str a_need 472, .ref 174⟩, ⟨(PyData.keyHash P a_takes), .str a_takes 480, .ref 181⟩, ⟨(PyData.keyHash P a_count), .str a_count 488, .ref 188⟩, ⟨(PyData.keyHash P a_lettered), .str a_lettered 497, .ref 195⟩, ⟨(PyData.keyHash P a_told_text), .str a_told_text 506, .ref 202⟩, ⟨(PyData.keyHash P a_end_line), .str a_end_line 513, .ref 209⟩, ⟨(PyData.keyHash P z_14), .str z_14 517, .ref 210⟩, ⟨(PyData.keyHash P z_18), .str z_18 519, .ref 213⟩, ⟨(PyData.keyHash P z_16), .str z_16 521, .ref 214⟩, ⟨(PyData.keyHash P z_3), .str z_3 522, .none⟩]⟩ 4, ⟨[]⟩⟩
def o_142 (P : Params) : Obj := ⟨.type "type", none, .cls ⟨a_Listing, [.type "object"], [.ref 212, .type "object"], 211, a_Listing, true, [], [], false, none, false⟩, ⟨[none, none, (some (.str a_Listing 407)), (some (.str a_Listing 415)), (some (.builtin "object.__new__")), (some (.bool true))]⟩⟩
def o_143 (P : Params) : Obj := ⟨.type "getset_descriptor", none, .fields ⟨[.str z_18 518, .ref 212, .builtin "function.__dict__", .builtin "function.__dict__#set"]⟩, ⟨[]⟩⟩
def o_144 (P : Params) : Obj := ⟨.type "getset_descriptor", none, .fields ⟨[.str z_16 520, .ref 212, .builtin "ExceptionGroup.__weakref__", .none]⟩, ⟨[]⟩⟩
noncomputable def o_145 (P : Params) : Obj := ⟨.type "super", none, .fields ⟨[.ref 212, .ref 212, .ref 212]⟩, ⟨[]⟩⟩
noncomputable def o_146 (P : Params) : Obj := ⟨.type "builtin_function_or_method", none, .fields ⟨[.builtin "object.__init_subclass__", .ref 212]⟩, ⟨[]⟩⟩
def sts_4 : List Stmt := [st_Listing]
def tree_5 (P : Params) : BT := (.node (boot_o_0 P) (.node (boot_o_1 P) (.node (o_86 P) (.node (boot_o_7 P) (.node (o_7 P) (.node (o_19 P) (.node (o_48 P) (.node (o_1 P) .nil .nil) (.node (o_128 P) .nil .nil)) (.node (o_71 P) (.node (o_110 P) .nil .nil) .nil)) (.node (o_36 P) (.node (o_59 P) (.node (o_0 P) .nil .nil) (.node (o_137 P) .nil .nil)) (.node (o_80 P) (.node (o_0 P) .nil .nil) .nil))) (.node (o_1 P) (.node (o_28 P) (.node (o_1 P) (.node (o_96 P) .nil .nil) (.node (o_0 P) .nil .nil)) (.node (o_1 P) (.node (o_115 P) .nil .nil) .nil)) (.node (o_43 P) (.node (o_0 P) (.node (o_105 P) .nil .nil) (.node (o_145 P) .nil .nil)) (.node (o_0 P) (.node (o_1 P) .nil .nil) .nil)))) (.node (o_0 P) (.node (o_10 P) (.node (o_24 P) (.node (o_52 P) (.node (o_94 P) .nil .nil) (.node (o_131 P) .nil .nil)) (.node (o_73 P) (.node (o_112 P) .nil .nil) .nil)) (.node (o_40 P) (.node (o_62 P) (.node (o_0 P) .nil .nil) (.node (o_141 P) .nil .nil)) (.node (o_1 P) (.node (o_121 P) .nil .nil) .nil))) (.node (o_15 P) (.node (o_32 P) (.node (o_57 P) (.node (o_99 P) .nil .nil) (.node (o_0 P) .nil .nil)) (.node (o_0 P) (.node (o_0 P) .nil .nil) .nil)) (.node (o_0 P) (.node (o_69 P) (.node (o_1 P) .nil .nil) .nil) (.node (o_89 P) (.node (o_126 P) .nil .nil) .nil))))) (.node (boot_o_5 P) (.node (boot_o_9 P) (.node (o_9 P) (.node (o_21 P) (.node (o_50 P) (.node (o_0 P) .nil .nil) (.node (o_129 P) .nil .nil)) (.node (o_0 P) (.node (o_0 P) .nil .nil) .nil)) (.node (o_0 P) (.node (o_60 P) (.node (o_102 P) .nil .nil) (.node (o_139 P) .nil .nil)) (.node (o_82 P) (.node (o_120 P) .nil .nil) .nil))) (.node (o_0 P) (.node (o_30 P) (.node (o_0 P) (.node (o_97 P) .nil .nil) (.node (o_134 P) .nil .nil)) (.node (o_77 P) (.node (o_1 P) .nil .nil) .nil)) (.node (o_1 P) (.node (o_65 P) (.node (o_107 P) .nil .nil) .nil) (.node (o_88 P) (.node (o_0 P) .nil .nil) .nil)))) (.node (o_2 P) (.node (o_12 P) (.node (o_26 P) (.node (o_54 P) (.node (o_0 P) .nil .nil) (.node (o_1 P) .nil .nil)) (.node (o_75 P) (.node (o_113 P) .nil .nil) .nil)) (.node (o_41 P) (.node (o_1 P) (.node (o_104 P) .nil .nil) (.node (o_143 P) .nil .nil)) (.node (o_84 P) (.node (o_123 P) .nil .nil) .nil))) (.node (o_17 P) (.node (o_34 P) (.node (o_0 P) (.node (o_1 P) .nil .nil) (.node (o_136 P) .nil .nil)) (.node (o_79 P) (.node (o_118 P) .nil .nil) .nil)) (.node (o_46 P) (.node (o_1 P) (.node (o_0 P) .nil .nil) .nil) (.node (o_91 P) (.node (o_0 P) .nil .nil) .nil)))))) (.node (o_4 P) (.node (boot_o_4 P) (.node (boot_o_8 P) (.node (o_8 P) (.node (o_20 P) (.node (o_49 P) (.node (o_92 P) .nil .nil) (.node (o_0 P) .nil .nil)) (.node (o_72 P) (.node (o_111 P) .nil .nil) .nil)) (.node (o_37 P) (.node (o_0 P) (.node (o_101 P) .nil .nil) (.node (o_138 P) .nil .nil)) (.node (o_81 P) (.node (o_1 P) .nil .nil) .nil))) (.node (o_13 P) (.node (o_29 P) (.node (o_55 P) (.node (o_0 P) .nil .nil) (.node (o_133 P) .nil .nil)) (.node (o_76 P) (.node (o_0 P) .nil .nil) .nil)) (.node (o_0 P) (.node (o_64 P) (.node (o_106 P) .nil .nil) (.node (o_146 P) .nil .nil)) (.node (o_8 P) (.node (o_124 P) .nil .nil) .nil)))) (.node (o_87 P) (.node (o_11 P) (.node (o_25 P) (.node (o_53 P) (.node (o_95 P) .nil .nil) (.node (o_0 P) .nil .nil)) (.node (o_74 P) (.node (o_0 P) .nil .nil) .nil)) (.node (o_0 P) (.node (o_0 P) (.node (o_1 P) .nil .nil) (.node (o_142 P) .nil .nil)) (.node (o_83 P) (.node (o_122 P) .nil .nil) .nil))) (.node (o_16 P) (.node (o_33 P) (.node (o_58 P) (.node (o_0 P) .nil .nil) (.node (o_1 P) .nil .nil)) (.node (o_1 P) (.node (o_117 P) .nil .nil) .nil)) (.node (o_45 P) (.node (o_0 P) (.node (o_108 P) .nil .nil) .nil) (.node (o_90 P) (.node (o_127 P) .nil .nil) .nil))))) (.node (boot_o_6 P) (.node (boot_o_10 P) (.node (o_0 P) (.node (o_22 P) (.node (o_51 P) (.node (o_93 P) .nil .nil) (.node (o_130 P) .nil .nil)) (.node (o_1 P) (.node (o_1 P) .nil .nil) .nil)) (.node (o_8 P) (.node (o_61 P) (.node (o_103 P) .nil .nil) (.node (o_140 P) .nil .nil)) (.node (o_0 P) (.node (o_0 P) .nil .nil) .nil))) (.node (o_14 P) (.node (o_31 P) (.node (o_56 P) (.node (o_98 P) .nil .nil) (.node (o_135 P) .nil .nil)) (.node (o_78 P) (.node (o_116 P) .nil .nil) .nil)) (.node (o_44 P) (.node (o_66 P) (.node (o_0 P) .nil .nil) .nil) (.node (o_0 P) (.node (o_125 P) .nil .nil) .nil)))) (.node (o_3 P) (.node (o_0 P) (.node (o_27 P) (.node (o_0 P) (.node (o_1 P) .nil .nil) (.node (o_132 P) .nil .nil)) (.node (o_0 P) (.node (o_114 P) .nil .nil) .nil)) (.node (o_42 P) (.node (o_63 P) (.node (o_0 P) .nil .nil) (.node (o_144 P) .nil .nil)) (.node (o_85 P) (.node (o_0 P) .nil .nil) .nil))) (.node (o_18 P) (.node (o_35 P) (.node (o_1 P) (.node (o_100 P) .nil .nil) (.node (o_0 P) .nil .nil)) (.node (o_0 P) (.node (o_119 P) .nil .nil) .nil)) (.node (o_47 P) (.node (o_70 P) (.node (o_109 P) .nil .nil) .nil) (.node (o_0 P) (.node (o_1 P) .nil .nil) .nil)))))))
noncomputable abbrev n_5 : Nat := 217
noncomputable abbrev k_5 : Nat := 525
noncomputable abbrev pos_5 : Pos := ⟨64, 0, 132, 33⟩
theorem pc_4 (w : World) : (fun os => segRunT treeTable myPw w m0 ann0 1 576 ⟨tree_4 w.params, n_4, life0, gens0, boot_drawn, k_4, os⟩ (piecesOf sts_4 env0 code0 pos_4 [topFrame q0])) = (fun os => some (Flow.next, (⟨tree_5 w.params, n_5, life0, gens0, boot_drawn, k_5, os⟩ : SharedT), code0, pos_5)) := by
  rw [PySem.W.Fast.te10110043849684766642, PySem.W.Fast.te14364793385576792824]
  kernel_rfl
def o_147 (P : Params) : Obj := ⟨.type "dict", none, .dict ⟨[⟨(PyData.keyHash P a___name__), .str a___name__ 165, .str a_law_nt0176_01 618⟩, ⟨(PyData.keyHash P z_3), .str z_3 166, .none⟩, ⟨(PyData.keyHash P z_4), .str z_4 167, .none⟩, ⟨(PyData.keyHash P z_5), .str z_5 168, .builtin "__main__.__loader__#opaque"⟩, ⟨(PyData.keyHash P z_6), .str z_6 169, .none⟩, ⟨(PyData.keyHash P z_7), .str z_7 170, .ref 6⟩, ⟨(PyData.keyHash P z_8), .str z_8 171, .ref 4⟩, ⟨(PyData.keyHash P z_9), .str z_9 173, .str t_25 172⟩, ⟨(PyData.keyHash P z_10), .str z_10 174, .none⟩, ⟨(PyData.keyHash P a_BadListing), .str a_BadListing 219, .ref 31⟩, ⟨(PyData.keyHash P a_OPERANDS), .str a_OPERANDS 275, .ref 35⟩, ⟨(PyData.keyHash P a_Procedure), .str a_Procedure 318, .ref 65⟩, ⟨(PyData.keyHash P a_operand_pairs), .str a_operand_pairs 325, .ref 76⟩, ⟨(PyData.keyHash P a_label_of), .str a_label_of 334, .ref 83⟩, ⟨(PyData.keyHash P a_labels_met), .str a_labels_met 344, .ref 90⟩, ⟨(PyData.keyHash P a_LETTERS), .str a_LETTERS 368, .ref 91⟩, ⟨(PyData.keyHash P a_registers_text), .str a_registers_text 374, .ref 96⟩, ⟨(PyData.keyHash P a_operand_text), .str a_operand_text 380, .ref 101⟩, ⟨(PyData.keyHash P a_instruction_text), .str a_instruction_text 386, .ref 106⟩, ⟨(PyData.keyHash P a_procedure_lines), .str a_procedure_lines 400, .ref 113⟩, ⟨(PyData.keyHash P a_code_text), .str a_code_text 406, .ref 118⟩, ⟨(PyData.keyHash P a_Listing), .str a_Listing 524, .ref 212⟩, ⟨(PyData.keyHash P a_is_figures), .str a_is_figures 532, .ref 223⟩, ⟨(PyData.keyHash P a_read_registers), .str a_read_registers 540, .ref 230⟩, ⟨(PyData.keyHash P a_read_rows), .str a_read_rows 550, .ref 237⟩, ⟨(PyData.keyHash P a_read_operand), .str a_read_operand 560, .ref 244⟩, ⟨(PyData.keyHash P a_read_instruction), .str a_read_instruction 571, .ref 251⟩, ⟨(PyData.keyHash P a_read_label), .str a_read_label 579, .ref 258⟩, ⟨(PyData.keyHash P a_read_instructions), .str a_read_instructions 585, .ref 263⟩, ⟨(PyData.keyHash P a_read_procedure), .str a_read_procedure 601, .ref 270⟩, ⟨(PyData.keyHash P a_read_procedures), .str a_read_procedures 607, .ref 275⟩, ⟨(PyData.keyHash P a_read_code), .str a_read_code 617, .ref 282⟩, ⟨(PyData.keyHash P a__law_pot), .str a__law_pot 625, .ref 287⟩, ⟨(PyData.keyHash P a__law_dip), .str a__law_dip 634, .ref 294⟩]⟩ 34, ⟨[]⟩⟩
noncomputable def o_148 (P : Params) : Obj := ⟨.none, none, .fields ⟨[.int (.ofNat 2) 0, .int (.ofNat 0) 0, .ref 20, .int (.ofNat 9) 0, .int (.ofNat 0) 0, .ref 54, .int (.ofNat 20) 0, .int (.ofNat 0) 0, .ref 75, .int (.ofNat 22) 0, .int (.ofNat 0) 0, .ref 82, .int (.ofNat 27) 0, .int (.ofNat 0) 0, .ref 89, .int (.ofNat 36) 0, .int (.ofNat 0) 0, .ref 95, .int (.ofNat 38) 0, .int (.ofNat 0) 0, .ref 100, .int (.ofNat 46) 0, .int (.ofNat 0) 0, .ref 105, .int (.ofNat 49) 0, .int (.ofNat 0) 0, .ref 112, .int (.ofNat 59) 0, .int (.ofNat 0) 0, .ref 117, .int (.ofNat 64) 0, .int (.ofNat 0) 0, .ref 124, .int (.ofNat 133) 0, .int (.ofNat 0) 0, .ref 222, .int (.ofNat 140) 0, .int (.ofNat 0) 0, .ref 229, .int (.ofNat 146) 0, .int (.ofNat 0) 0, .ref 236, .int (.ofNat 153) 0, .int (.ofNat 0) 0, .ref 243, .int (.ofNat 164) 0, .int (.ofNat 0) 0, .ref 250, .int (.ofNat 173) 0, .int (.ofNat 0) 0, .ref 257, .int (.ofNat 179) 0, .int (.ofNat 0) 0, .ref 262, .int (.ofNat 191) 0, .int (.ofNat 0) 0, .ref 269, .int (.ofNat 207) 0, .int (.ofNat 0) 0, .ref 274, .int (.ofNat 213) 0, .int (.ofNat 0) 0, .ref 281, .int (.ofNat 220) 0, .int (.ofNat 0) 0, .ref 286, .int (.ofNat 222) 0, .int (.ofNat 0) 0, .ref 293]⟩, ⟨[]⟩⟩
def o_149 (P : Params) : Obj := ⟨.type "tuple", none, .seq ⟨[.str a_text 528, .str a_sign 529]⟩ 0, ⟨[]⟩⟩
def o_150 (P : Params) : Obj := ⟨.none, none, .func ⟨a_is_figures, a_is_figures, args_is_figures, .stmts body_is_figures, scope_is_figures, 0, [], .none, .none, .none, .none, none, .none, .none, 0⟩, ⟨[]⟩⟩
def o_151 (P : Params) : Obj := ⟨.type "code", none, .fields ⟨[.str a_is_figures 525, .str a_is_figures 526, .str t_25 527, .int (.ofNat 133) 0, .int (.ofNat 1) 0, .int (.ofNat 0) 0, .int (.ofNat 0) 0, .int (.ofNat 3) 0, .ref 217, .bool true, .int (.ofNat 181) 0, .ref 218, .none, .ref 219, .ref 220, .ref 221, .int (.ofNat 530) 0, .int (.ofNat 133) 0, .str t_25 531]⟩, ⟨[]⟩⟩
def o_152 (P : Params) : Obj := ⟨.type "function", none, .func ⟨a_is_figures, a_is_figures, args_is_figures, .stmts body_is_figures, scope_is_figures, 3, [], .none, .none, .none, .str t_2 345, none, .ref 222, .none, 0⟩, ⟨[]⟩⟩
def o_153 (P : Params) : Obj := ⟨.type "tuple", none, .seq ⟨[.str a_listing 536, .str a_found 537]⟩ 0, ⟨[]⟩⟩
def o_154 (P : Params) : Obj := ⟨.none, none, .func ⟨a_read_registers, a_read_registers, args_read_registers, .stmts body_read_registers, scope_read_registers, 0, [], .none, .none, .none, .none, none, .none, .none, 0⟩, ⟨[]⟩⟩
def o_155 (P : Params) : Obj := ⟨.type "code", none, .fields ⟨[.str a_read_registers 533, .str a_read_registers 534, .str t_25 535, .int (.ofNat 140) 0, .int (.ofNat 1) 0, .int (.ofNat 0) 0, .int (.ofNat 0) 0, .int (.ofNat 3) 0, .ref 224, .bool true, .int (.ofNat 181) 0, .ref 225, .none, .ref 226, .ref 227, .ref 228, .int (.ofNat 538) 0, .int (.ofNat 140) 0, .str t_25 539]⟩, ⟨[]⟩⟩
def o_156 (P : Params) : Obj := ⟨.type "function", none, .func ⟨a_read_registers, a_read_registers, args_read_registers, .stmts body_read_registers, scope_read_registers, 3, [], .none, .none, .none, .str t_2 345, none, .ref 229, .none, 0⟩, ⟨[]⟩⟩
def o_157 (P : Params) : Obj := ⟨.type "tuple", none, .seq ⟨[.str a_listing 544, .str a_found 545, .str a_register 546, .str a_number 547]⟩ 0, ⟨[]⟩⟩
def o_158 (P : Params) : Obj := ⟨.none, none, .func ⟨a_read_rows, a_read_rows, args_read_rows, .stmts body_read_rows, scope_read_rows, 0, [], .none, .none, .none, .none, none, .none, .none, 0⟩, ⟨[]⟩⟩
def o_159 (P : Params) : Obj := ⟨.type "code", none, .fields ⟨[.str a_read_rows 541, .str a_read_rows 542, .str t_25 543, .int (.ofNat 146) 0, .int (.ofNat 1) 0, .int (.ofNat 0) 0, .int (.ofNat 0) 0, .int (.ofNat 3) 0, .ref 231, .bool true, .int (.ofNat 181) 0, .ref 232, .none, .ref 233, .ref 234, .ref 235, .int (.ofNat 548) 0, .int (.ofNat 146) 0, .str t_25 549]⟩, ⟨[]⟩⟩
def o_160 (P : Params) : Obj := ⟨.type "function", none, .func ⟨a_read_rows, a_read_rows, args_read_rows, .stmts body_read_rows, scope_read_rows, 3, [], .none, .none, .none, .str t_2 345, none, .ref 236, .none, 0⟩, ⟨[]⟩⟩
def o_161 (P : Params) : Obj := ⟨.type "tuple", none, .seq ⟨[.str a_listing 554, .str a_sort 555, .str a_ops 556, .str a_name 557]⟩ 0, ⟨[]⟩⟩
def o_162 (P : Params) : Obj := ⟨.none, none, .func ⟨a_read_operand, a_read_operand, args_read_operand, .stmts body_read_operand, scope_read_operand, 0, [], .none, .none, .none, .none, none, .none, .none, 0⟩, ⟨[]⟩⟩
def o_163 (P : Params) : Obj := ⟨.type "code", none, .fields ⟨[.str a_read_operand 551, .str a_read_operand 552, .str t_25 553, .int (.ofNat 153) 0, .int (.ofNat 3) 0, .int (.ofNat 0) 0, .int (.ofNat 0) 0, .int (.ofNat 3) 0, .ref 238, .bool true, .int (.ofNat 181) 0, .ref 239, .none, .ref 240, .ref 241, .ref 242, .int (.ofNat 558) 0, .int (.ofNat 153) 0, .str t_25 559]⟩, ⟨[]⟩⟩
def o_164 (P : Params) : Obj := ⟨.type "function", none, .func ⟨a_read_operand, a_read_operand, args_read_operand, .stmts body_read_operand, scope_read_operand, 3, [], .none, .none, .none, .str t_2 345, none, .ref 243, .none, 0⟩, ⟨[]⟩⟩
def o_165 (P : Params) : Obj := ⟨.type "tuple", none, .seq ⟨[.str a_listing 564, .str a_ops 565, .str a_word 566, .str a_found 567, .str a_sort 568]⟩ 0, ⟨[]⟩⟩
def o_166 (P : Params) : Obj := ⟨.none, none, .func ⟨a_read_instruction, a_read_instruction, args_read_instruction, .stmts body_read_instruction, scope_read_instruction, 0, [], .none, .none, .none, .none, none, .none, .none, 0⟩, ⟨[]⟩⟩
def o_167 (P : Params) : Obj := ⟨.type "code", none, .fields ⟨[.str a_read_instruction 561, .str a_read_instruction 562, .str t_25 563, .int (.ofNat 164) 0, .int (.ofNat 2) 0, .int (.ofNat 0) 0, .int (.ofNat 0) 0, .int (.ofNat 3) 0, .ref 245, .bool true, .int (.ofNat 181) 0, .ref 246, .none, .ref 247, .ref 248, .ref 249, .int (.ofNat 569) 0, .int (.ofNat 164) 0, .str t_25 570]⟩, ⟨[]⟩⟩
def o_168 (P : Params) : Obj := ⟨.type "function", none, .func ⟨a_read_instruction, a_read_instruction, args_read_instruction, .stmts body_read_instruction, scope_read_instruction, 3, [], .none, .none, .none, .str t_2 345, none, .ref 250, .none, 0⟩, ⟨[]⟩⟩
def o_169 (P : Params) : Obj := ⟨.type "tuple", none, .seq ⟨[.str a_listing 575, .str a_place 576]⟩ 0, ⟨[]⟩⟩
def o_170 (P : Params) : Obj := ⟨.none, none, .func ⟨a_read_label, a_read_label, args_read_label, .stmts body_read_label, scope_read_label, 0, [], .none, .none, .none, .none, none, .none, .none, 0⟩, ⟨[]⟩⟩
def o_171 (P : Params) : Obj := ⟨.type "code", none, .fields ⟨[.str a_read_label 572, .str a_read_label 573, .str t_25 574, .int (.ofNat 173) 0, .int (.ofNat 2) 0, .int (.ofNat 0) 0, .int (.ofNat 0) 0, .int (.ofNat 3) 0, .ref 252, .bool true, .int (.ofNat 181) 0, .ref 253, .none, .ref 254, .ref 255, .ref 256, .int (.ofNat 577) 0, .int (.ofNat 173) 0, .str t_25 578]⟩, ⟨[]⟩⟩
def o_172 (P : Params) : Obj := ⟨.type "function", none, .func ⟨a_read_label, a_read_label, args_read_label, .stmts body_read_label, scope_read_label, 3, [], .none, .none, .none, .str t_2 345, none, .ref 257, .none, 0⟩, ⟨[]⟩⟩
def o_173 (P : Params) : Obj := ⟨.none, none, .func ⟨a_read_instructions, a_read_instructions, args_read_instructions, .stmts body_read_instructions, scope_read_instructions, 0, [], .none, .none, .none, .none, none, .none, .none, 0⟩, ⟨[]⟩⟩
def o_174 (P : Params) : Obj := ⟨.type "code", none, .fields ⟨[.str a_read_instructions 580, .str a_read_instructions 581, .str t_25 582, .int (.ofNat 179) 0, .int (.ofNat 2) 0, .int (.ofNat 0) 0, .int (.ofNat 0) 0, .int (.ofNat 3) 0, .ref 259, .bool true, .int (.ofNat 181) 0, .ref 260, .none, .none, .none, .ref 261, .int (.ofNat 583) 0, .int (.ofNat 179) 0, .str t_25 584]⟩, ⟨[]⟩⟩
def o_175 (P : Params) : Obj := ⟨.type "function", none, .func ⟨a_read_instructions, a_read_instructions, args_read_instructions, .stmts body_read_instructions, scope_read_instructions, 3, [], .none, .none, .none, .str t_2 345, none, .ref 262, .none, 0⟩, ⟨[]⟩⟩
def o_176 (P : Params) : Obj := ⟨.type "tuple", none, .seq ⟨[.str a_listing 589, .str a_number 590, .str a_ops 591, .str a_needed 592, .str a_has_rest 593, .str a_is_continuation 594, .str a_registers 595, .str a_free 596, .str a_title 597, .str a_instructions 598]⟩ 0, ⟨[]⟩⟩
def o_177 (P : Params) : Obj := ⟨.none, none, .func ⟨a_read_procedure, a_read_procedure, args_read_procedure, .stmts body_read_procedure, scope_read_procedure, 0, [], .none, .none, .none, .none, none, .none, .none, 0⟩, ⟨[]⟩⟩
def o_178 (P : Params) : Obj := ⟨.type "code", none, .fields ⟨[.str a_read_procedure 586, .str a_read_procedure 587, .str t_25 588, .int (.ofNat 191) 0, .int (.ofNat 3) 0, .int (.ofNat 0) 0, .int (.ofNat 0) 0, .int (.ofNat 3) 0, .ref 264, .bool true, .int (.ofNat 181) 0, .ref 265, .none, .ref 266, .ref 267, .ref 268, .int (.ofNat 599) 0, .int (.ofNat 191) 0, .str t_25 600]⟩, ⟨[]⟩⟩
def o_179 (P : Params) : Obj := ⟨.type "function", none, .func ⟨a_read_procedure, a_read_procedure, args_read_procedure, .stmts body_read_procedure, scope_read_procedure, 3, [], .none, .none, .none, .str t_2 345, none, .ref 269, .none, 0⟩, ⟨[]⟩⟩
def o_180 (P : Params) : Obj := ⟨.none, none, .func ⟨a_read_procedures, a_read_procedures, args_read_procedures, .stmts body_read_procedures, scope_read_procedures, 0, [], .none, .none, .none, .none, none, .none, .none, 0⟩, ⟨[]⟩⟩
def o_181 (P : Params) : Obj := ⟨.type "code", none, .fields ⟨[.str a_read_procedures 602, .str a_read_procedures 603, .str t_25 604, .int (.ofNat 207) 0, .int (.ofNat 2) 0, .int (.ofNat 0) 0, .int (.ofNat 0) 0, .int (.ofNat 3) 0, .ref 271, .bool true, .int (.ofNat 181) 0, .ref 272, .none, .none, .none, .ref 273, .int (.ofNat 605) 0, .int (.ofNat 207) 0, .str t_25 606]⟩, ⟨[]⟩⟩
def o_182 (P : Params) : Obj := ⟨.type "function", none, .func ⟨a_read_procedures, a_read_procedures, args_read_procedures, .stmts body_read_procedures, scope_read_procedures, 3, [], .none, .none, .none, .str t_2 345, none, .ref 274, .none, 0⟩, ⟨[]⟩⟩
def o_183 (P : Params) : Obj := ⟨.type "tuple", none, .seq ⟨[.str a_text 611, .str a_names 612, .str a_listing 613, .str a_found 614]⟩ 0, ⟨[]⟩⟩
def o_184 (P : Params) : Obj := ⟨.none, none, .func ⟨a_read_code, a_read_code, args_read_code, .stmts body_read_code, scope_read_code, 0, [], .none, .none, .none, .none, none, .none, .none, 0⟩, ⟨[]⟩⟩
def o_185 (P : Params) : Obj := ⟨.type "code", none, .fields ⟨[.str a_read_code 608, .str a_read_code 609, .str t_25 610, .int (.ofNat 213) 0, .int (.ofNat 2) 0, .int (.ofNat 0) 0, .int (.ofNat 0) 0, .int (.ofNat 3) 0, .ref 276, .bool true, .int (.ofNat 181) 0, .ref 277, .none, .ref 278, .ref 279, .ref 280, .int (.ofNat 615) 0, .int (.ofNat 213) 0, .str t_25 616]⟩, ⟨[]⟩⟩
def o_186 (P : Params) : Obj := ⟨.type "function", none, .func ⟨a_read_code, a_read_code, args_read_code, .stmts body_read_code, scope_read_code, 3, [], .none, .none, .none, .str t_2 345, none, .ref 281, .none, 0⟩, ⟨[]⟩⟩
def o_187 (P : Params) : Obj := ⟨.none, none, .func ⟨a__law_pot, a__law_pot, args_law_pot, .stmts body_law_pot, scope_law_pot, 0, [], .none, .none, .none, .none, none, .none, .none, 0⟩, ⟨[]⟩⟩
def o_188 (P : Params) : Obj := ⟨.type "code", none, .fields ⟨[.str a__law_pot 620, .str a__law_pot 621, .str t_25 622, .int (.ofNat 220) 0, .int (.ofNat 1) 0, .int (.ofNat 0) 0, .int (.ofNat 0) 0, .int (.ofNat 3) 0, .ref 283, .bool true, .int (.ofNat 181) 0, .ref 284, .none, .none, .none, .ref 285, .int (.ofNat 623) 0, .int (.ofNat 220) 0, .str t_25 624]⟩, ⟨[]⟩⟩
def o_189 (P : Params) : Obj := ⟨.type "function", none, .func ⟨a__law_pot, a__law_pot, args_law_pot, .stmts body_law_pot, scope_law_pot, 3, [], .none, .none, .none, .str a_law_nt0176_01 618, none, .ref 286, .none, 0⟩, ⟨[]⟩⟩
def o_190 (P : Params) : Obj := ⟨.type "tuple", none, .seq ⟨[.str a_pot 629, .str a_many 630, .str a_at 631]⟩ 0, ⟨[]⟩⟩
def o_191 (P : Params) : Obj := ⟨.none, none, .func ⟨a__law_dip, a__law_dip, args_law_dip, .stmts body_law_dip, scope_law_dip, 0, [], .none, .none, .none, .none, none, .none, .none, 0⟩, ⟨[]⟩⟩
def o_192 (P : Params) : Obj := ⟨.type "code", none, .fields ⟨[.str a__law_dip 626, .str a__law_dip 627, .str t_25 628, .int (.ofNat 222) 0, .int (.ofNat 2) 0, .int (.ofNat 0) 0, .int (.ofNat 0) 0, .int (.ofNat 3) 0, .ref 288, .bool true, .int (.ofNat 181) 0, .ref 289, .none, .ref 290, .ref 291, .ref 292, .int (.ofNat 632) 0, .int (.ofNat 222) 0, .str t_25 633]⟩, ⟨[]⟩⟩
def o_193 (P : Params) : Obj := ⟨.type "function", none, .func ⟨a__law_dip, a__law_dip, args_law_dip, .stmts body_law_dip, scope_law_dip, 3, [], .none, .none, .none, .str a_law_nt0176_01 618, none, .ref 293, .none, 0⟩, ⟨[]⟩⟩
def sts_5 : List Stmt := [st_is_figures, st_read_registers, st_read_rows, st_read_operand, st_read_instruction, st_read_label, st_read_instructions, st_read_procedure, st_read_procedures, st_read_code, st_26, st_law_pot, st_law_dip]
def tree_6 (P : Params) : BT := (.node (boot_o_0 P) (.node (boot_o_1 P) (.node (o_147 P) (.node (boot_o_7 P) (.node (o_7 P) (.node (o_19 P) (.node (o_48 P) (.node (o_1 P) (.node (o_0 P) .nil .nil) .nil) (.node (o_128 P) .nil .nil)) (.node (o_71 P) (.node (o_110 P) (.node (o_189 P) .nil .nil) .nil) (.node (o_152 P) .nil .nil))) (.node (o_36 P) (.node (o_59 P) (.node (o_0 P) (.node (o_0 P) .nil .nil) .nil) (.node (o_137 P) .nil .nil)) (.node (o_80 P) (.node (o_0 P) .nil .nil) (.node (o_1 P) .nil .nil)))) (.node (o_1 P) (.node (o_28 P) (.node (o_1 P) (.node (o_96 P) (.node (o_175 P) .nil .nil) .nil) (.node (o_0 P) .nil .nil)) (.node (o_1 P) (.node (o_115 P) .nil .nil) (.node (o_0 P) .nil .nil))) (.node (o_43 P) (.node (o_0 P) (.node (o_105 P) (.node (o_0 P) .nil .nil) .nil) (.node (o_145 P) .nil .nil)) (.node (o_0 P) (.node (o_1 P) .nil .nil) (.node (o_165 P) .nil .nil))))) (.node (o_0 P) (.node (o_10 P) (.node (o_24 P) (.node (o_52 P) (.node (o_94 P) (.node (o_0 P) .nil .nil) .nil) (.node (o_131 P) .nil .nil)) (.node (o_73 P) (.node (o_112 P) (.node (o_0 P) .nil .nil) .nil) (.node (o_0 P) .nil .nil))) (.node (o_40 P) (.node (o_62 P) (.node (o_0 P) (.node (o_182 P) .nil .nil) .nil) (.node (o_141 P) .nil .nil)) (.node (o_1 P) (.node (o_121 P) .nil .nil) (.node (o_163 P) .nil .nil)))) (.node (o_15 P) (.node (o_32 P) (.node (o_57 P) (.node (o_99 P) (.node (o_0 P) .nil .nil) .nil) (.node (o_0 P) .nil .nil)) (.node (o_0 P) (.node (o_0 P) .nil .nil) (.node (o_158 P) .nil .nil))) (.node (o_0 P) (.node (o_69 P) (.node (o_1 P) (.node (o_0 P) .nil .nil) .nil) (.node (o_149 P) .nil .nil)) (.node (o_89 P) (.node (o_126 P) .nil .nil) (.node (o_168 P) .nil .nil)))))) (.node (boot_o_5 P) (.node (boot_o_9 P) (.node (o_9 P) (.node (o_21 P) (.node (o_50 P) (.node (o_0 P) (.node (o_171 P) .nil .nil) .nil) (.node (o_129 P) .nil .nil)) (.node (o_0 P) (.node (o_0 P) (.node (o_1 P) .nil .nil) .nil) (.node (o_1 P) .nil .nil))) (.node (o_0 P) (.node (o_60 P) (.node (o_102 P) (.node (o_180 P) .nil .nil) .nil) (.node (o_139 P) .nil .nil)) (.node (o_82 P) (.node (o_120 P) .nil .nil) (.node (o_0 P) .nil .nil)))) (.node (o_0 P) (.node (o_30 P) (.node (o_0 P) (.node (o_97 P) (.node (o_1 P) .nil .nil) .nil) (.node (o_134 P) .nil .nil)) (.node (o_77 P) (.node (o_1 P) .nil .nil) (.node (o_157 P) .nil .nil))) (.node (o_1 P) (.node (o_65 P) (.node (o_107 P) (.node (o_185 P) .nil .nil) .nil) (.node (o_0 P) .nil .nil)) (.node (o_88 P) (.node (o_0 P) .nil .nil) (.node (o_166 P) .nil .nil))))) (.node (o_2 P) (.node (o_12 P) (.node (o_26 P) (.node (o_54 P) (.node (o_0 P) (.node (o_173 P) .nil .nil) .nil) (.node (o_1 P) .nil .nil)) (.node (o_75 P) (.node (o_113 P) (.node (o_192 P) .nil .nil) .nil) (.node (o_155 P) .nil .nil))) (.node (o_41 P) (.node (o_1 P) (.node (o_104 P) (.node (o_1 P) .nil .nil) .nil) (.node (o_143 P) .nil .nil)) (.node (o_84 P) (.node (o_123 P) .nil .nil) (.node (o_0 P) .nil .nil)))) (.node (o_17 P) (.node (o_34 P) (.node (o_0 P) (.node (o_1 P) (.node (o_178 P) .nil .nil) .nil) (.node (o_136 P) .nil .nil)) (.node (o_79 P) (.node (o_118 P) .nil .nil) (.node (o_160 P) .nil .nil))) (.node (o_46 P) (.node (o_1 P) (.node (o_0 P) (.node (o_187 P) .nil .nil) .nil) (.node (o_150 P) .nil .nil)) (.node (o_91 P) (.node (o_0 P) .nil .nil) (.node (o_1 P) .nil .nil))))))) (.node (o_4 P) (.node (boot_o_4 P) (.node (boot_o_8 P) (.node (o_8 P) (.node (o_20 P) (.node (o_49 P) (.node (o_92 P) (.node (o_170 P) .nil .nil) .nil) (.node (o_0 P) .nil .nil)) (.node (o_72 P) (.node (o_111 P) (.node (o_0 P) .nil .nil) .nil) (.node (o_0 P) .nil .nil))) (.node (o_37 P) (.node (o_0 P) (.node (o_101 P) (.node (o_1 P) .nil .nil) .nil) (.node (o_138 P) .nil .nil)) (.node (o_81 P) (.node (o_1 P) .nil .nil) (.node (o_161 P) .nil .nil)))) (.node (o_13 P) (.node (o_29 P) (.node (o_55 P) (.node (o_0 P) (.node (o_0 P) .nil .nil) .nil) (.node (o_133 P) .nil .nil)) (.node (o_76 P) (.node (o_0 P) .nil .nil) (.node (o_1 P) .nil .nil))) (.node (o_0 P) (.node (o_64 P) (.node (o_106 P) (.node (o_184 P) .nil .nil) .nil) (.node (o_146 P) .nil .nil)) (.node (o_8 P) (.node (o_124 P) .nil .nil) (.node (o_0 P) .nil .nil))))) (.node (o_148 P) (.node (o_11 P) (.node (o_25 P) (.node (o_53 P) (.node (o_95 P) (.node (o_1 P) .nil .nil) .nil) (.node (o_0 P) .nil .nil)) (.node (o_74 P) (.node (o_0 P) (.node (o_191 P) .nil .nil) .nil) (.node (o_154 P) .nil .nil))) (.node (o_0 P) (.node (o_0 P) (.node (o_1 P) (.node (o_0 P) .nil .nil) .nil) (.node (o_142 P) .nil .nil)) (.node (o_83 P) (.node (o_122 P) .nil .nil) (.node (o_164 P) .nil .nil)))) (.node (o_16 P) (.node (o_33 P) (.node (o_58 P) (.node (o_0 P) (.node (o_177 P) .nil .nil) .nil) (.node (o_1 P) .nil .nil)) (.node (o_1 P) (.node (o_117 P) .nil .nil) (.node (o_159 P) .nil .nil))) (.node (o_45 P) (.node (o_0 P) (.node (o_108 P) (.node (o_1 P) .nil .nil) .nil) (.node (o_0 P) .nil .nil)) (.node (o_90 P) (.node (o_127 P) .nil .nil) (.node (o_0 P) .nil .nil)))))) (.node (boot_o_6 P) (.node (boot_o_10 P) (.node (o_0 P) (.node (o_22 P) (.node (o_51 P) (.node (o_93 P) (.node (o_172 P) .nil .nil) .nil) (.node (o_130 P) .nil .nil)) (.node (o_1 P) (.node (o_1 P) (.node (o_190 P) .nil .nil) .nil) (.node (o_153 P) .nil .nil))) (.node (o_8 P) (.node (o_61 P) (.node (o_103 P) (.node (o_181 P) .nil .nil) .nil) (.node (o_140 P) .nil .nil)) (.node (o_0 P) (.node (o_0 P) .nil .nil) (.node (o_162 P) .nil .nil)))) (.node (o_14 P) (.node (o_31 P) (.node (o_56 P) (.node (o_98 P) (.node (o_176 P) .nil .nil) .nil) (.node (o_135 P) .nil .nil)) (.node (o_78 P) (.node (o_116 P) .nil .nil) (.node (o_0 P) .nil .nil))) (.node (o_44 P) (.node (o_66 P) (.node (o_0 P) (.node (o_186 P) .nil .nil) .nil) (.node (o_1 P) .nil .nil)) (.node (o_0 P) (.node (o_125 P) .nil .nil) (.node (o_167 P) .nil .nil))))) (.node (o_3 P) (.node (o_0 P) (.node (o_27 P) (.node (o_0 P) (.node (o_1 P) (.node (o_174 P) .nil .nil) .nil) (.node (o_132 P) .nil .nil)) (.node (o_0 P) (.node (o_114 P) (.node (o_193 P) .nil .nil) .nil) (.node (o_156 P) .nil .nil))) (.node (o_42 P) (.node (o_63 P) (.node (o_0 P) (.node (o_183 P) .nil .nil) .nil) (.node (o_144 P) .nil .nil)) (.node (o_85 P) (.node (o_0 P) .nil .nil) (.node (o_1 P) .nil .nil)))) (.node (o_18 P) (.node (o_35 P) (.node (o_1 P) (.node (o_100 P) (.node (o_179 P) .nil .nil) .nil) (.node (o_0 P) .nil .nil)) (.node (o_0 P) (.node (o_119 P) .nil .nil) (.node (o_0 P) .nil .nil))) (.node (o_47 P) (.node (o_70 P) (.node (o_109 P) (.node (o_188 P) .nil .nil) .nil) (.node (o_151 P) .nil .nil)) (.node (o_0 P) (.node (o_1 P) .nil .nil) (.node (o_169 P) .nil .nil))))))))
noncomputable abbrev n_6 : Nat := 295
noncomputable abbrev k_6 : Nat := 635
noncomputable abbrev pos_6 : Pos := ⟨222, 0, 228, 24⟩
theorem pc_5 (w : World) : (fun os => segRunT treeTable myPw w m0 ann0 1 376 ⟨tree_5 w.params, n_5, life0, gens0, boot_drawn, k_5, os⟩ (piecesOf sts_5 env0 code0 pos_5 [topFrame q0])) = (fun os => some (Flow.next, (⟨tree_6 w.params, n_6, life0, gens0, boot_drawn, k_6, os⟩ : SharedT), code0, pos_6)) := by
  rw [PySem.W.Fast.te10110043849684766642, PySem.W.Fast.te14364793385576792824]
  kernel_rfl
def o_194 (P : Params) : Obj := ⟨.type "dict", none, .dict ⟨[⟨(PyData.keyHash P a___name__), .str a___name__ 165, .str a_law_nt0176_01 618⟩, ⟨(PyData.keyHash P z_3), .str z_3 166, .none⟩, ⟨(PyData.keyHash P z_4), .str z_4 167, .none⟩, ⟨(PyData.keyHash P z_5), .str z_5 168, .builtin "__main__.__loader__#opaque"⟩, ⟨(PyData.keyHash P z_6), .str z_6 169, .none⟩, ⟨(PyData.keyHash P z_7), .str z_7 170, .ref 6⟩, ⟨(PyData.keyHash P z_8), .str z_8 171, .ref 4⟩, ⟨(PyData.keyHash P z_9), .str z_9 173, .str t_25 172⟩, ⟨(PyData.keyHash P z_10), .str z_10 174, .none⟩, ⟨(PyData.keyHash P a_BadListing), .str a_BadListing 219, .ref 31⟩, ⟨(PyData.keyHash P a_OPERANDS), .str a_OPERANDS 275, .ref 35⟩, ⟨(PyData.keyHash P a_Procedure), .str a_Procedure 318, .ref 65⟩, ⟨(PyData.keyHash P a_operand_pairs), .str a_operand_pairs 325, .ref 76⟩, ⟨(PyData.keyHash P a_label_of), .str a_label_of 334, .ref 83⟩, ⟨(PyData.keyHash P a_labels_met), .str a_labels_met 344, .ref 90⟩, ⟨(PyData.keyHash P a_LETTERS), .str a_LETTERS 368, .ref 91⟩, ⟨(PyData.keyHash P a_registers_text), .str a_registers_text 374, .ref 96⟩, ⟨(PyData.keyHash P a_operand_text), .str a_operand_text 380, .ref 101⟩, ⟨(PyData.keyHash P a_instruction_text), .str a_instruction_text 386, .ref 106⟩, ⟨(PyData.keyHash P a_procedure_lines), .str a_procedure_lines 400, .ref 113⟩, ⟨(PyData.keyHash P a_code_text), .str a_code_text 406, .ref 118⟩, ⟨(PyData.keyHash P a_Listing), .str a_Listing 524, .ref 212⟩, ⟨(PyData.keyHash P a_is_figures), .str a_is_figures 532, .ref 223⟩, ⟨(PyData.keyHash P a_read_registers), .str a_read_registers 540, .ref 230⟩, ⟨(PyData.keyHash P a_read_rows), .str a_read_rows 550, .ref 237⟩, ⟨(PyData.keyHash P a_read_operand), .str a_read_operand 560, .ref 244⟩, ⟨(PyData.keyHash P a_read_instruction), .str a_read_instruction 571, .ref 251⟩, ⟨(PyData.keyHash P a_read_label), .str a_read_label 579, .ref 258⟩, ⟨(PyData.keyHash P a_read_instructions), .str a_read_instructions 585, .ref 263⟩, ⟨(PyData.keyHash P a_read_procedure), .str a_read_procedure 601, .ref 270⟩, ⟨(PyData.keyHash P a_read_procedures), .str a_read_procedures 607, .ref 275⟩, ⟨(PyData.keyHash P a_read_code), .str a_read_code 617, .ref 282⟩, ⟨(PyData.keyHash P a__law_pot), .str a__law_pot 625, .ref 287⟩, ⟨(PyData.keyHash P a__law_dip), .str a__law_dip 634, .ref 294⟩, ⟨(PyData.keyHash P a__law_names), .str a__law_names 640, .ref 301⟩, ⟨(PyData.keyHash P a__law_steps), .str a__law_steps 650, .ref 308⟩, ⟨(PyData.keyHash P a__law_wrong), .str a__law_wrong 656, .ref 313⟩, ⟨(PyData.keyHash P a_law), .str a_law 662, .ref 318⟩]⟩ 38, ⟨[]⟩⟩
noncomputable def o_195 (P : Params) : Obj := ⟨.none, none, .fields ⟨[.int (.ofNat 2) 0, .int (.ofNat 0) 0, .ref 20, .int (.ofNat 9) 0, .int (.ofNat 0) 0, .ref 54, .int (.ofNat 20) 0, .int (.ofNat 0) 0, .ref 75, .int (.ofNat 22) 0, .int (.ofNat 0) 0, .ref 82, .int (.ofNat 27) 0, .int (.ofNat 0) 0, .ref 89, .int (.ofNat 36) 0, .int (.ofNat 0) 0, .ref 95, .int (.ofNat 38) 0, .int (.ofNat 0) 0, .ref 100, .int (.ofNat 46) 0, .int (.ofNat 0) 0, .ref 105, .int (.ofNat 49) 0, .int (.ofNat 0) 0, .ref 112, .int (.ofNat 59) 0, .int (.ofNat 0) 0, .ref 117, .int (.ofNat 64) 0, .int (.ofNat 0) 0, .ref 124, .int (.ofNat 133) 0, .int (.ofNat 0) 0, .ref 222, .int (.ofNat 140) 0, .int (.ofNat 0) 0, .ref 229, .int (.ofNat 146) 0, .int (.ofNat 0) 0, .ref 236, .int (.ofNat 153) 0, .int (.ofNat 0) 0, .ref 243, .int (.ofNat 164) 0, .int (.ofNat 0) 0, .ref 250, .int (.ofNat 173) 0, .int (.ofNat 0) 0, .ref 257, .int (.ofNat 179) 0, .int (.ofNat 0) 0, .ref 262, .int (.ofNat 191) 0, .int (.ofNat 0) 0, .ref 269, .int (.ofNat 207) 0, .int (.ofNat 0) 0, .ref 274, .int (.ofNat 213) 0, .int (.ofNat 0) 0, .ref 281, .int (.ofNat 220) 0, .int (.ofNat 0) 0, .ref 286, .int (.ofNat 222) 0, .int (.ofNat 0) 0, .ref 293, .int (.ofNat 229) 0, .int (.ofNat 0) 0, .ref 300, .int (.ofNat 231) 0, .int (.ofNat 0) 0, .ref 307, .int (.ofNat 237) 0, .int (.ofNat 0) 0, .ref 312, .int (.ofNat 255) 0, .int (.ofNat 0) 0, .ref 317]⟩, ⟨[]⟩⟩
def o_196 (P : Params) : Obj := ⟨.none, none, .func ⟨a__law_names, a__law_names, args_law_names, .stmts body_law_names, scope_law_names, 0, [], .none, .none, .none, .none, none, .none, .none, 0⟩, ⟨[]⟩⟩
def o_197 (P : Params) : Obj := ⟨.type "code", none, .fields ⟨[.str a__law_names 635, .str a__law_names 636, .str t_25 637, .int (.ofNat 229) 0, .int (.ofNat 0) 0, .int (.ofNat 0) 0, .int (.ofNat 0) 0, .int (.ofNat 3) 0, .ref 295, .bool true, .int (.ofNat 181) 0, .ref 296, .none, .ref 297, .ref 298, .ref 299, .int (.ofNat 638) 0, .int (.ofNat 229) 0, .str t_25 639]⟩, ⟨[]⟩⟩
def o_198 (P : Params) : Obj := ⟨.type "function", none, .func ⟨a__law_names, a__law_names, args_law_names, .stmts body_law_names, scope_law_names, 3, [], .none, .none, .none, .str a_law_nt0176_01 618, none, .ref 300, .none, 0⟩, ⟨[]⟩⟩
def o_199 (P : Params) : Obj := ⟨.type "tuple", none, .seq ⟨[.str a_pot 644, .str a_some 645, .str a_first 646, .str a_found 647]⟩ 0, ⟨[]⟩⟩
def o_200 (P : Params) : Obj := ⟨.none, none, .func ⟨a__law_steps, a__law_steps, args_law_steps, .stmts body_law_steps, scope_law_steps, 0, [], .none, .none, .none, .none, none, .none, .none, 0⟩, ⟨[]⟩⟩
def o_201 (P : Params) : Obj := ⟨.type "code", none, .fields ⟨[.str a__law_steps 641, .str a__law_steps 642, .str t_25 643, .int (.ofNat 231) 0, .int (.ofNat 1) 0, .int (.ofNat 0) 0, .int (.ofNat 0) 0, .int (.ofNat 3) 0, .ref 302, .bool true, .int (.ofNat 181) 0, .ref 303, .none, .ref 304, .ref 305, .ref 306, .int (.ofNat 648) 0, .int (.ofNat 231) 0, .str t_25 649]⟩, ⟨[]⟩⟩
def o_202 (P : Params) : Obj := ⟨.type "function", none, .func ⟨a__law_steps, a__law_steps, args_law_steps, .stmts body_law_steps, scope_law_steps, 3, [], .none, .none, .none, .str a_law_nt0176_01 618, none, .ref 307, .none, 0⟩, ⟨[]⟩⟩
def o_203 (P : Params) : Obj := ⟨.none, none, .func ⟨a__law_wrong, a__law_wrong, args_law_wrong, .stmts body_law_wrong, scope_law_wrong, 0, [], .none, .none, .none, .none, none, .none, .none, 0⟩, ⟨[]⟩⟩
def o_204 (P : Params) : Obj := ⟨.type "code", none, .fields ⟨[.str a__law_wrong 651, .str a__law_wrong 652, .str t_25 653, .int (.ofNat 237) 0, .int (.ofNat 2) 0, .int (.ofNat 0) 0, .int (.ofNat 0) 0, .int (.ofNat 3) 0, .ref 309, .bool true, .int (.ofNat 181) 0, .ref 310, .none, .none, .none, .ref 311, .int (.ofNat 654) 0, .int (.ofNat 237) 0, .str t_25 655]⟩, ⟨[]⟩⟩
def o_205 (P : Params) : Obj := ⟨.type "function", none, .func ⟨a__law_wrong, a__law_wrong, args_law_wrong, .stmts body_law_wrong, scope_law_wrong, 3, [], .none, .none, .none, .str a_law_nt0176_01 618, none, .ref 312, .none, 0⟩, ⟨[]⟩⟩
def o_206 (P : Params) : Obj := ⟨.none, none, .func ⟨a_law, a_law, args_law, .stmts body_law, scope_law, 0, [], .none, .none, .none, .none, none, .none, .none, 0⟩, ⟨[]⟩⟩
def o_207 (P : Params) : Obj := ⟨.type "code", none, .fields ⟨[.str a_law 657, .str a_law 658, .str t_25 659, .int (.ofNat 255) 0, .int (.ofNat 1) 0, .int (.ofNat 0) 0, .int (.ofNat 0) 0, .int (.ofNat 3) 0, .ref 314, .bool true, .int (.ofNat 181) 0, .ref 315, .none, .none, .none, .ref 316, .int (.ofNat 660) 0, .int (.ofNat 255) 0, .str t_25 661]⟩, ⟨[]⟩⟩
def o_208 (P : Params) : Obj := ⟨.type "function", none, .func ⟨a_law, a_law, args_law, .stmts body_law, scope_law, 3, [], .none, .none, .none, .str a_law_nt0176_01 618, none, .ref 317, .none, 0⟩, ⟨[]⟩⟩
def sts_6 : List Stmt := [st_law_names, st_law_steps, st_law_wrong, st_law]
def tree_7 (P : Params) : BT := (.node (boot_o_0 P) (.node (boot_o_1 P) (.node (o_194 P) (.node (boot_o_7 P) (.node (o_7 P) (.node (o_19 P) (.node (o_48 P) (.node (o_1 P) (.node (o_0 P) .nil .nil) .nil) (.node (o_128 P) .nil .nil)) (.node (o_71 P) (.node (o_110 P) (.node (o_189 P) .nil .nil) .nil) (.node (o_152 P) .nil .nil))) (.node (o_36 P) (.node (o_59 P) (.node (o_0 P) (.node (o_0 P) .nil .nil) .nil) (.node (o_137 P) .nil .nil)) (.node (o_80 P) (.node (o_0 P) (.node (o_1 P) .nil .nil) .nil) (.node (o_1 P) .nil .nil)))) (.node (o_1 P) (.node (o_28 P) (.node (o_1 P) (.node (o_96 P) (.node (o_175 P) .nil .nil) .nil) (.node (o_0 P) .nil .nil)) (.node (o_1 P) (.node (o_115 P) (.node (o_0 P) .nil .nil) .nil) (.node (o_0 P) .nil .nil))) (.node (o_43 P) (.node (o_0 P) (.node (o_105 P) (.node (o_0 P) .nil .nil) .nil) (.node (o_145 P) .nil .nil)) (.node (o_0 P) (.node (o_1 P) (.node (o_203 P) .nil .nil) .nil) (.node (o_165 P) .nil .nil))))) (.node (o_0 P) (.node (o_10 P) (.node (o_24 P) (.node (o_52 P) (.node (o_94 P) (.node (o_0 P) .nil .nil) .nil) (.node (o_131 P) .nil .nil)) (.node (o_73 P) (.node (o_112 P) (.node (o_0 P) .nil .nil) .nil) (.node (o_0 P) .nil .nil))) (.node (o_40 P) (.node (o_62 P) (.node (o_0 P) (.node (o_182 P) .nil .nil) .nil) (.node (o_141 P) .nil .nil)) (.node (o_1 P) (.node (o_121 P) (.node (o_201 P) .nil .nil) .nil) (.node (o_163 P) .nil .nil)))) (.node (o_15 P) (.node (o_32 P) (.node (o_57 P) (.node (o_99 P) (.node (o_0 P) .nil .nil) .nil) (.node (o_0 P) .nil .nil)) (.node (o_0 P) (.node (o_0 P) (.node (o_196 P) .nil .nil) .nil) (.node (o_158 P) .nil .nil))) (.node (o_0 P) (.node (o_69 P) (.node (o_1 P) (.node (o_0 P) .nil .nil) .nil) (.node (o_149 P) .nil .nil)) (.node (o_89 P) (.node (o_126 P) (.node (o_1 P) .nil .nil) .nil) (.node (o_168 P) .nil .nil)))))) (.node (boot_o_5 P) (.node (boot_o_9 P) (.node (o_9 P) (.node (o_21 P) (.node (o_50 P) (.node (o_0 P) (.node (o_171 P) .nil .nil) .nil) (.node (o_129 P) .nil .nil)) (.node (o_0 P) (.node (o_0 P) (.node (o_1 P) .nil .nil) .nil) (.node (o_1 P) .nil .nil))) (.node (o_0 P) (.node (o_60 P) (.node (o_102 P) (.node (o_180 P) .nil .nil) .nil) (.node (o_139 P) .nil .nil)) (.node (o_82 P) (.node (o_120 P) (.node (o_0 P) .nil .nil) .nil) (.node (o_0 P) .nil .nil)))) (.node (o_0 P) (.node (o_30 P) (.node (o_0 P) (.node (o_97 P) (.node (o_1 P) .nil .nil) .nil) (.node (o_134 P) .nil .nil)) (.node (o_77 P) (.node (o_1 P) (.node (o_0 P) .nil .nil) .nil) (.node (o_157 P) .nil .nil))) (.node (o_1 P) (.node (o_65 P) (.node (o_107 P) (.node (o_185 P) .nil .nil) .nil) (.node (o_0 P) .nil .nil)) (.node (o_88 P) (.node (o_0 P) (.node (o_205 P) .nil .nil) .nil) (.node (o_166 P) .nil .nil))))) (.node (o_2 P) (.node (o_12 P) (.node (o_26 P) (.node (o_54 P) (.node (o_0 P) (.node (o_173 P) .nil .nil) .nil) (.node (o_1 P) .nil .nil)) (.node (o_75 P) (.node (o_113 P) (.node (o_192 P) .nil .nil) .nil) (.node (o_155 P) .nil .nil))) (.node (o_41 P) (.node (o_1 P) (.node (o_104 P) (.node (o_1 P) .nil .nil) .nil) (.node (o_143 P) .nil .nil)) (.node (o_84 P) (.node (o_123 P) (.node (o_0 P) .nil .nil) .nil) (.node (o_0 P) .nil .nil)))) (.node (o_17 P) (.node (o_34 P) (.node (o_0 P) (.node (o_1 P) (.node (o_178 P) .nil .nil) .nil) (.node (o_136 P) .nil .nil)) (.node (o_79 P) (.node (o_118 P) (.node (o_198 P) .nil .nil) .nil) (.node (o_160 P) .nil .nil))) (.node (o_46 P) (.node (o_1 P) (.node (o_0 P) (.node (o_187 P) .nil .nil) .nil) (.node (o_150 P) .nil .nil)) (.node (o_91 P) (.node (o_0 P) (.node (o_207 P) .nil .nil) .nil) (.node (o_1 P) .nil .nil))))))) (.node (o_4 P) (.node (boot_o_4 P) (.node (boot_o_8 P) (.node (o_8 P) (.node (o_20 P) (.node (o_49 P) (.node (o_92 P) (.node (o_170 P) .nil .nil) .nil) (.node (o_0 P) .nil .nil)) (.node (o_72 P) (.node (o_111 P) (.node (o_0 P) .nil .nil) .nil) (.node (o_0 P) .nil .nil))) (.node (o_37 P) (.node (o_0 P) (.node (o_101 P) (.node (o_1 P) .nil .nil) .nil) (.node (o_138 P) .nil .nil)) (.node (o_81 P) (.node (o_1 P) (.node (o_199 P) .nil .nil) .nil) (.node (o_161 P) .nil .nil)))) (.node (o_13 P) (.node (o_29 P) (.node (o_55 P) (.node (o_0 P) (.node (o_0 P) .nil .nil) .nil) (.node (o_133 P) .nil .nil)) (.node (o_76 P) (.node (o_0 P) (.node (o_1 P) .nil .nil) .nil) (.node (o_1 P) .nil .nil))) (.node (o_0 P) (.node (o_64 P) (.node (o_106 P) (.node (o_184 P) .nil .nil) .nil) (.node (o_146 P) .nil .nil)) (.node (o_8 P) (.node (o_124 P) (.node (o_204 P) .nil .nil) .nil) (.node (o_0 P) .nil .nil))))) (.node (o_195 P) (.node (o_11 P) (.node (o_25 P) (.node (o_53 P) (.node (o_95 P) (.node (o_1 P) .nil .nil) .nil) (.node (o_0 P) .nil .nil)) (.node (o_74 P) (.node (o_0 P) (.node (o_191 P) .nil .nil) .nil) (.node (o_154 P) .nil .nil))) (.node (o_0 P) (.node (o_0 P) (.node (o_1 P) (.node (o_0 P) .nil .nil) .nil) (.node (o_142 P) .nil .nil)) (.node (o_83 P) (.node (o_122 P) (.node (o_202 P) .nil .nil) .nil) (.node (o_164 P) .nil .nil)))) (.node (o_16 P) (.node (o_33 P) (.node (o_58 P) (.node (o_0 P) (.node (o_177 P) .nil .nil) .nil) (.node (o_1 P) .nil .nil)) (.node (o_1 P) (.node (o_117 P) (.node (o_197 P) .nil .nil) .nil) (.node (o_159 P) .nil .nil))) (.node (o_45 P) (.node (o_0 P) (.node (o_108 P) (.node (o_1 P) .nil .nil) .nil) (.node (o_0 P) .nil .nil)) (.node (o_90 P) (.node (o_127 P) (.node (o_206 P) .nil .nil) .nil) (.node (o_0 P) .nil .nil)))))) (.node (boot_o_6 P) (.node (boot_o_10 P) (.node (o_0 P) (.node (o_22 P) (.node (o_51 P) (.node (o_93 P) (.node (o_172 P) .nil .nil) .nil) (.node (o_130 P) .nil .nil)) (.node (o_1 P) (.node (o_1 P) (.node (o_190 P) .nil .nil) .nil) (.node (o_153 P) .nil .nil))) (.node (o_8 P) (.node (o_61 P) (.node (o_103 P) (.node (o_181 P) .nil .nil) .nil) (.node (o_140 P) .nil .nil)) (.node (o_0 P) (.node (o_0 P) (.node (o_200 P) .nil .nil) .nil) (.node (o_162 P) .nil .nil)))) (.node (o_14 P) (.node (o_31 P) (.node (o_56 P) (.node (o_98 P) (.node (o_176 P) .nil .nil) .nil) (.node (o_135 P) .nil .nil)) (.node (o_78 P) (.node (o_116 P) (.node (o_0 P) .nil .nil) .nil) (.node (o_0 P) .nil .nil))) (.node (o_44 P) (.node (o_66 P) (.node (o_0 P) (.node (o_186 P) .nil .nil) .nil) (.node (o_1 P) .nil .nil)) (.node (o_0 P) (.node (o_125 P) (.node (o_0 P) .nil .nil) .nil) (.node (o_167 P) .nil .nil))))) (.node (o_3 P) (.node (o_0 P) (.node (o_27 P) (.node (o_0 P) (.node (o_1 P) (.node (o_174 P) .nil .nil) .nil) (.node (o_132 P) .nil .nil)) (.node (o_0 P) (.node (o_114 P) (.node (o_193 P) .nil .nil) .nil) (.node (o_156 P) .nil .nil))) (.node (o_42 P) (.node (o_63 P) (.node (o_0 P) (.node (o_183 P) .nil .nil) .nil) (.node (o_144 P) .nil .nil)) (.node (o_85 P) (.node (o_0 P) (.node (o_1 P) .nil .nil) .nil) (.node (o_1 P) .nil .nil)))) (.node (o_18 P) (.node (o_35 P) (.node (o_1 P) (.node (o_100 P) (.node (o_179 P) .nil .nil) .nil) (.node (o_0 P) .nil .nil)) (.node (o_0 P) (.node (o_119 P) (.node (o_0 P) .nil .nil) .nil) (.node (o_0 P) .nil .nil))) (.node (o_47 P) (.node (o_70 P) (.node (o_109 P) (.node (o_188 P) .nil .nil) .nil) (.node (o_151 P) .nil .nil)) (.node (o_0 P) (.node (o_1 P) (.node (o_208 P) .nil .nil) .nil) (.node (o_169 P) .nil .nil))))))))
noncomputable abbrev n_7 : Nat := 319
noncomputable abbrev k_7 : Nat := 663
noncomputable abbrev pos_7 : Pos := ⟨255, 0, 271, 31⟩
theorem pc_6 (w : World) : (fun os => segRunT treeTable myPw w m0 ann0 1 113 ⟨tree_6 w.params, n_6, life0, gens0, boot_drawn, k_6, os⟩ (piecesOf sts_6 env0 code0 pos_6 [topFrame q0])) = (fun os => some (Flow.next, (⟨tree_7 w.params, n_7, life0, gens0, boot_drawn, k_7, os⟩ : SharedT), code0, pos_7)) := by
  rw [PySem.W.Fast.te10110043849684766642, PySem.W.Fast.te14364793385576792824]
  kernel_rfl
def heap_fin (P : Params) : Heap := ⟨⟨[boot_o_0 P, boot_o_1 P, o_4 P, o_194 P, boot_o_4 P, boot_o_5 P, boot_o_6 P, boot_o_7 P, boot_o_8 P, boot_o_9 P, boot_o_10 P, o_0 P, o_195 P, o_2 P, o_3 P, o_7 P, o_8 P, o_9 P, o_0 P, o_10 P, o_11 P, o_12 P, o_0 P, o_1 P, o_13 P, o_0 P, o_14 P, o_15 P, o_16 P, o_17 P, o_18 P, o_19 P, o_20 P, o_21 P, o_22 P, o_24 P, o_25 P, o_26 P, o_27 P, o_28 P, o_29 P, o_30 P, o_31 P, o_32 P, o_33 P, o_34 P, o_35 P, o_36 P, o_37 P, o_0 P, o_8 P, o_40 P, o_0 P, o_41 P, o_42 P, o_43 P, o_0 P, o_1 P, o_44 P, o_0 P, o_45 P, o_46 P, o_47 P, o_48 P, o_49 P, o_50 P, o_51 P, o_52 P, o_53 P, o_54 P, o_0 P, o_1 P, o_55 P, o_0 P, o_56 P, o_57 P, o_58 P, o_0 P, o_1 P, o_59 P, o_0 P, o_60 P, o_61 P, o_62 P, o_0 P, o_1 P, o_63 P, o_0 P, o_64 P, o_65 P, o_66 P, o_69 P, o_0 P, o_1 P, o_70 P, o_71 P, o_72 P, o_0 P, o_1 P, o_73 P, o_74 P, o_75 P, o_0 P, o_1 P, o_76 P, o_77 P, o_78 P, o_0 P, o_1 P, o_79 P, o_0 P, o_80 P, o_81 P, o_82 P, o_0 P, o_1 P, o_83 P, o_84 P, o_85 P, o_0 P, o_8 P, o_88 P, o_0 P, o_89 P, o_90 P, o_91 P, o_0 P, o_1 P, o_92 P, o_0 P, o_93 P, o_94 P, o_95 P, o_0 P, o_1 P, o_96 P, o_0 P, o_97 P, o_98 P, o_99 P, o_0 P, o_1 P, o_100 P, o_0 P, o_101 P, o_102 P, o_103 P, o_0 P, o_1 P, o_104 P, o_0 P, o_105 P, o_106 P, o_107 P, o_0 P, o_1 P, o_108 P, o_0 P, o_109 P, o_110 P, o_111 P, o_0 P, o_1 P, o_112 P, o_0 P, o_113 P, o_114 P, o_115 P, o_0 P, o_1 P, o_116 P, o_0 P, o_117 P, o_118 P, o_119 P, o_0 P, o_1 P, o_120 P, o_0 P, o_121 P, o_122 P, o_123 P, o_0 P, o_1 P, o_124 P, o_0 P, o_125 P, o_126 P, o_127 P, o_0 P, o_1 P, o_128 P, o_0 P, o_129 P, o_130 P, o_131 P, o_0 P, o_1 P, o_132 P, o_0 P, o_133 P, o_134 P, o_135 P, o_0 P, o_1 P, o_136 P, o_0 P, o_137 P, o_138 P, o_139 P, o_140 P, o_141 P, o_142 P, o_143 P, o_144 P, o_145 P, o_146 P, o_0 P, o_1 P, o_149 P, o_0 P, o_150 P, o_151 P, o_152 P, o_0 P, o_1 P, o_153 P, o_0 P, o_154 P, o_155 P, o_156 P, o_0 P, o_1 P, o_157 P, o_0 P, o_158 P, o_159 P, o_160 P, o_0 P, o_1 P, o_161 P, o_0 P, o_162 P, o_163 P, o_164 P, o_0 P, o_1 P, o_165 P, o_0 P, o_166 P, o_167 P, o_168 P, o_0 P, o_1 P, o_169 P, o_0 P, o_170 P, o_171 P, o_172 P, o_0 P, o_1 P, o_173 P, o_174 P, o_175 P, o_0 P, o_1 P, o_176 P, o_0 P, o_177 P, o_178 P, o_179 P, o_0 P, o_1 P, o_180 P, o_181 P, o_182 P, o_0 P, o_1 P, o_183 P, o_0 P, o_184 P, o_185 P, o_186 P, o_0 P, o_1 P, o_187 P, o_188 P, o_189 P, o_0 P, o_1 P, o_190 P, o_0 P, o_191 P, o_192 P, o_193 P, o_0 P, o_1 P, o_0 P, o_0 P, o_196 P, o_197 P, o_198 P, o_0 P, o_1 P, o_199 P, o_0 P, o_200 P, o_201 P, o_202 P, o_0 P, o_1 P, o_203 P, o_204 P, o_205 P, o_0 P, o_1 P, o_206 P, o_207 P, o_208 P]⟩, life0⟩
theorem pc_pre (w : World) : (fun os => topGo treeTable myPw w m0 ann0 stepsPre ⟨boot_heap w.params, gens0, boot_drawn, boot_toks, os⟩ (topStub myPw)) =
    fun os => some ((⟨heap_pre w.params, gens0, boot_drawn, kpre, os⟩ : Shared), (⟨denote treeTable code0, code0, pos0, [topFrame q0]⟩ : Thread)) := by
  rw [PySem.W.Fast.te15667345088766844465, PySem.W.Fast.te14364793385576792824, PySem.W.Fast.te11892475500146522536]
  kernel_rfl
theorem pc_block (w : World) : (fun os => segRun treeTable myPw w m0 ann0 1 1 ⟨heap_pre w.params, gens0, boot_drawn, kpre, os⟩ (blockOf bE env0 code0 pos0 [topFrame q0])) =
    fun os => some (Flow.next, SharedT.abs ⟨tree_0 w.params, n_0, life0, gens0, boot_drawn, k_0, os⟩, code0, pos_0) := by kernel_rfl
theorem pc_fin (w : World) : (fun os => topRun treeTable myPw w m0 ann0 2 (SharedT.abs ⟨tree_7 w.params, n_7, life0, gens0, boot_drawn, k_7, os⟩) ⟨doneF Flow.next, code0, pos_7, [topFrame q0]⟩) =
    fun os => some (⟨heap_fin w.params, gens0, boot_drawn, k_7, os⟩ : Shared) := by
  rw [PySem.W.Fast.te14082659384304107361, PySem.W.Fast.te14364793385576792824]
  kernel_rfl
def heapK (P : Params) : Frag := [(2, o_4 P), (3, o_194 P), (15, o_7 P), (22, o_0 P), (24, o_13 P), (25, o_0 P), (27, o_15 P), (28, o_16 P), (29, o_17 P), (30, o_18 P), (31, o_19 P), (32, o_20 P), (35, o_24 P), (36, o_25 P), (37, o_26 P), (38, o_27 P), (39, o_28 P), (40, o_29 P), (41, o_30 P), (42, o_31 P), (43, o_32 P), (44, o_33 P), (45, o_34 P), (46, o_35 P), (47, o_36 P), (48, o_37 P), (56, o_0 P), (58, o_44 P), (59, o_0 P), (61, o_46 P), (62, o_47 P), (63, o_48 P), (64, o_49 P), (65, o_50 P), (66, o_51 P), (67, o_52 P), (70, o_0 P), (72, o_55 P), (73, o_0 P), (75, o_57 P), (76, o_58 P), (77, o_0 P), (79, o_59 P), (80, o_0 P), (82, o_61 P), (83, o_62 P), (84, o_0 P), (86, o_63 P), (87, o_0 P), (89, o_65 P), (90, o_66 P), (91, o_69 P), (92, o_0 P), (95, o_71 P), (96, o_72 P), (97, o_0 P), (100, o_74 P), (101, o_75 P), (102, o_0 P), (105, o_77 P), (106, o_78 P), (107, o_0 P), (109, o_79 P), (110, o_0 P), (112, o_81 P), (113, o_82 P), (114, o_0 P), (117, o_84 P), (118, o_85 P), (126, o_0 P), (128, o_92 P), (129, o_0 P), (131, o_94 P), (132, o_95 P), (133, o_0 P), (135, o_96 P), (136, o_0 P), (138, o_98 P), (139, o_99 P), (140, o_0 P), (142, o_100 P), (143, o_0 P), (145, o_102 P), (146, o_103 P), (147, o_0 P), (149, o_104 P), (150, o_0 P), (152, o_106 P), (153, o_107 P), (154, o_0 P), (156, o_108 P), (157, o_0 P), (159, o_110 P), (160, o_111 P), (161, o_0 P), (163, o_112 P), (164, o_0 P), (166, o_114 P), (167, o_115 P), (168, o_0 P), (170, o_116 P), (171, o_0 P), (173, o_118 P), (174, o_119 P), (175, o_0 P), (177, o_120 P), (178, o_0 P), (180, o_122 P), (181, o_123 P), (182, o_0 P), (184, o_124 P), (185, o_0 P), (187, o_126 P), (188, o_127 P), (189, o_0 P), (191, o_128 P), (192, o_0 P), (194, o_130 P), (195, o_131 P), (196, o_0 P), (198, o_132 P), (199, o_0 P), (201, o_134 P), (202, o_135 P), (203, o_0 P), (205, o_136 P), (206, o_0 P), (208, o_138 P), (209, o_139 P), (210, o_140 P), (211, o_141 P), (212, o_142 P), (213, o_143 P), (214, o_144 P), (217, o_0 P), (219, o_149 P), (220, o_0 P), (222, o_151 P), (223, o_152 P), (224, o_0 P), (226, o_153 P), (227, o_0 P), (229, o_155 P), (230, o_156 P), (231, o_0 P), (233, o_157 P), (234, o_0 P), (236, o_159 P), (237, o_160 P), (238, o_0 P), (240, o_161 P), (241, o_0 P), (243, o_163 P), (244, o_164 P), (245, o_0 P), (247, o_165 P), (248, o_0 P), (250, o_167 P), (251, o_168 P), (252, o_0 P), (254, o_169 P), (255, o_0 P), (257, o_171 P), (258, o_172 P), (259, o_0 P), (262, o_174 P), (263, o_175 P), (264, o_0 P), (266, o_176 P), (267, o_0 P), (269, o_178 P), (270, o_179 P), (271, o_0 P), (274, o_181 P), (275, o_182 P), (276, o_0 P), (278, o_183 P), (279, o_0 P), (281, o_185 P), (282, o_186 P), (283, o_0 P), (286, o_188 P), (287, o_189 P), (288, o_0 P), (290, o_190 P), (291, o_0 P), (293, o_192 P), (294, o_193 P), (295, o_0 P), (297, o_0 P), (298, o_0 P), (300, o_197 P), (301, o_198 P), (302, o_0 P), (304, o_199 P), (305, o_0 P), (307, o_201 P), (308, o_202 P), (309, o_0 P), (312, o_204 P), (313, o_205 P), (314, o_0 P), (317, o_207 P), (318, o_208 P)]
noncomputable abbrev addrK : List Addr := [2, 3, 15, 22, 24, 25, 27, 28, 29, 30, 31, 32, 35, 36, 37, 38, 39, 40, 41, 42, 43, 44, 45, 46, 47, 48, 56, 58, 59, 61, 62, 63, 64, 65, 66, 67, 70, 72, 73, 75, 76, 77, 79, 80, 82, 83, 84, 86, 87, 89, 90, 91, 92, 95, 96, 97, 100, 101, 102, 105, 106, 107, 109, 110, 112, 113, 114, 117, 118, 126, 128, 129, 131, 132, 133, 135, 136, 138, 139, 140, 142, 143, 145, 146, 147, 149, 150, 152, 153, 154, 156, 157, 159, 160, 161, 163, 164, 166, 167, 168, 170, 171, 173, 174, 175, 177, 178, 180, 181, 182, 184, 185, 187, 188, 189, 191, 192, 194, 195, 196, 198, 199, 201, 202, 203, 205, 206, 208, 209, 210, 211, 212, 213, 214, 217, 219, 220, 222, 223, 224, 226, 227, 229, 230, 231, 233, 234, 236, 237, 238, 240, 241, 243, 244, 245, 247, 248, 250, 251, 252, 254, 255, 257, 258, 259, 262, 263, 264, 266, 267, 269, 270, 271, 274, 275, 276, 278, 279, 281, 282, 283, 286, 287, 288, 290, 291, 293, 294, 295, 297, 298, 300, 301, 302, 304, 305, 307, 308, 309, 312, 313, 314, 317, 318]
end
section
noncomputable def qv : Program := { myPw with main := { myPw.main with body := [st_BadListing, st_3, st_Procedure, st_operand_pairs, st_label_of, st_labels_met, st_9, st_registers_text, st_operand_text, st_instruction_text, st_procedure_lines, st_code_text, st_Listing, st_is_figures, st_read_registers, st_read_rows, st_read_operand, st_read_instruction, st_read_label, st_read_instructions, st_read_procedure, st_read_procedures, st_read_code, st_law_pot, st_law_dip, st_law_names, st_law_steps, st_law_wrong, st_law] } }
theorem run_all : ∃ M, Nat.ble M 4420 = true ∧ ∀ (w : World) (os : OsState), topRun treeTable myPw w m0 ann0 M ⟨boot_heap w.params, gens0, boot_drawn, boot_toks, os⟩ (topStub myPw) = some ⟨heap_fin w.params, gens0, boot_drawn, k_7, os⟩ :=
  by
  refine ⟨stepsPre + (1 + (249 + (246 + (338 + (256 + (576 + (376 + (113 + (2))))))))), ?le, fun w os => go_top (congrFun (pc_pre w) os) (piece_block (congrFun (pc_block w) os) ?run)⟩
  case run =>
    show topRun treeTable myPw w m0 ann0 _ _ (restOf (sts_0 ++ (sts_1 ++ (sts_2 ++ (sts_3 ++ (sts_4 ++ (sts_5 ++ (sts_6 ++ []))))))) env0 code0 pos_0 [topFrame q0]) = _
    exact piece_app (l := sts_0) (segRun_of (congrFun (pc_0 w) os)) (piece_app (l := sts_1) (segRun_of (congrFun (pc_1 w) os)) (piece_app (l := sts_2) (segRun_of (congrFun (pc_2 w) os)) (piece_app (l := sts_3) (segRun_of (congrFun (pc_3 w) os)) (piece_app (l := sts_4) (segRun_of (congrFun (pc_4 w) os)) (piece_app (l := sts_5) (segRun_of (congrFun (pc_5 w) os)) (piece_app (l := sts_6) (segRun_of (congrFun (pc_6 w) os)) (piece_nil (congrFun (pc_fin w) os))))))))
  case le => rfl
noncomputable abbrev HK : Hook := kHook heapK addrK (fun _ => rfl)
theorem open_all : ∀ w : World, (fencedOpening treeTable myPw w 4420).map (fun s => (s.heap, s.gens, s.drawn, s.toks)) = some (boot_heap w.params, gens0, boot_drawn, boot_toks) :=
  boot_open (by kernel_rfl) rfl (fun _ => by kernel_rfl)
theorem size_all : ∀ w : World, ((boot_heap w.params).isNs mainGlobals && gens0.size == 0, (boot_heap w.params).objs.size, (boot_heap w.params).nsMap mainGlobals "__annotations__") = (true, m0, ann0) := by
  intro w
  rw [PySem.W.Fast.te8920871248978507458]
  kernel_rfl
noncomputable abbrev loose0 : List Str := [a_OPERANDS, a_LETTERS]
noncomputable abbrev Xt0 : Shared → Bool := fun s => xlAt qv [] s && recOk [] s
theorem look_1 : ∀ w : World, (fun os => (staticsOk (importedModules myPw.main.body) (boot_heap w.params) (heap_fin w.params) && namesBound myPw (heap_fin w.params) && gensDone ⟨heap_fin w.params, gens0, boot_drawn, k_7, os⟩ && laidKept (boot_heap w.params) (heap_fin w.params))) = fun os => true := by
  intro w; kernel_rfl
theorem look_3 : ∀ w : World, (fun os => HK.obs ⟨heap_fin w.params, gens0, boot_drawn, k_7, os⟩) = fun os => HK.val w := by
  intro w; kernel_rfl
theorem look_2 : ∀ w : World, (fun os => openSeen qv loose0 (importedModules myPw.main.body) Xt0 true ⟨heap_fin w.params, gens0, boot_drawn, k_7, os⟩) = fun os => openGood qv loose0 := by
  intro w
  rw [PySem.W.Fast.te4187177175401517315]; kernel_rfl
theorem left_all : LeftO myPw qv loose0 Xt0 HK.obs HK.val 4420 true := fun w => by
  obtain ⟨M, le, h⟩ : ∃ M, Nat.ble M 4420 = true ∧ ∀ (w : World) (os : OsState), topRun treeTable myPw w m0 ann0 M ⟨boot_heap w.params, gens0, boot_drawn, boot_toks, os⟩ (topStub myPw) = some ⟨heap_fin w.params, gens0, boot_drawn, k_7, os⟩ := run_all
  exact LeftO.of_pieces (H₀ := boot_heap) (H₁ := heap_fin) open_all size_all h le (fun w => funext fun os => looks_pair (congrFun (look_1 w) os) (looks_pair (congrFun (look_2 w) os) (congrFun (look_3 w) os))) w
theorem head_all (hc : WalkO qv loose0 (XL qv []) HK.says (OpenRow.toRowW myLaw.row) ((defOf qv a_law).get rfl).1 ((defOf qv a_law).get rfl).2 (fun f vs => PySem.call f vs)) (hw : (OpenRow.toRowW myLaw.row).promised) : PySem.Challenge.rw_nt0176_01.Holds := by
  rw [rw_is]
  w_on
  o_law
  refine PySem.W.holds_open (q := qv) (loose := loose0) (Xt := Xt0) (XP := XL qv []) (Yf := HK.obs) (Ya := HK.val) (YP := HK.says) (N := 4420) left_all HK.of HK.keeps (fun s e => xl_of s (Bool.and_eq_true_iff.mp e).1) XL.keeps (by rfl) (by rfl) (by rfl) (fun s e => recFacts_of (Bool.and_eq_true_iff.mp e).2) (by rfl) (by assumption) (by decide +kernel) ⟨rfl, rfl, rfl, rfl, rfl, by decide +kernel⟩ hw hc
end
section
inductive AV where
  | none | bool (b : Bool) | int (i : Int) | str (l : List Nat) | tup (l : List AV) | ref (a : Addr)
noncomputable abbrev Led := List (Addr × Obj)
noncomputable def TupIn (b : Heap) (tl : Led) (a : Addr) (vs : List Value) : Prop :=
  IsTup b a vs.toArray ∨ ∃ o n, (a, o) ∈ tl ∧ o.cls = .type "tuple" ∧ o.data = .seq vs.toArray n
mutual
inductive VR (b : Heap) (tl : Led) : Value → AV → Prop
  | none : VR b tl .none .none
  | bool (x : Bool) : VR b tl (.bool x) (.bool x)
  | int (i : Int) (t : Tok) : VR b tl (.int i t) (.int i)
  | str (s : Str) (t : Tok) (l : List Nat) : s.cps.toList = l → VR b tl (.str s t) (.str l)
  | tup (a : Addr) (vs : List Value) (avs : List AV) : TupIn b tl a vs → VRs b tl vs avs → VR b tl (.ref a) (.tup avs)
  | ref (a : Addr) : VR b tl (.ref a) (.ref a)
inductive VRs (b : Heap) (tl : Led) : List Value → List AV → Prop
  | nil : VRs b tl [] []
  | cons (v : Value) (av : AV) (vs : List Value) (avs : List AV) : VR b tl v av → VRs b tl vs avs → VRs b tl (v :: vs) (av :: avs)
end
noncomputable def Ext (tl tl' : Led) : Prop := ∀ p ∈ tl, p ∈ tl'
theorem Ext.refl (tl : Led) : Ext tl tl := fun _ h => h
theorem Ext.trans {a b c : Led} (x : Ext a b) (y : Ext b c) : Ext a c := fun p h => y p (x p h)
theorem Ext.cons (p : Addr × Obj) (tl : Led) : Ext tl (p :: tl) := fun _ h => .tail _ h
theorem TupIn.ext {b : Heap} {tl tl' : Led} {a : Addr} {vs : List Value} (x : Ext tl tl') (h : TupIn b tl a vs) : TupIn b tl' a vs :=
  h.imp id fun ⟨o, n, m, r⟩ => ⟨o, n, x _ m, r⟩
theorem VR.ext {b : Heap} {tl tl' : Led} (x : Ext tl tl') {v : Value} {av : AV} (h : VR b tl v av) : VR b tl' v av :=
  VR.rec (motive_1 := fun v av _ => VR b tl' v av) (motive_2 := fun vs avs _ => VRs b tl' vs avs) .none .bool .int .str (fun a vs avs h _ r => .tup a vs avs (h.ext x) r) .ref .nil (fun v av vs avs _ _ h r => .cons v av vs avs h r) h
theorem VRs.ind {b : Heap} {tl : Led} {P : List Value → List AV → Prop} (n : P [] []) (c : ∀ v av vs avs, VR b tl v av → VRs b tl vs avs → P vs avs → P (v :: vs) (av :: avs)) {vs : List Value} {avs : List AV} (h : VRs b tl vs avs) : P vs avs :=
  VRs.rec (motive_1 := fun _ _ _ => True) (motive_2 := fun vs avs _ => P vs avs) trivial (fun _ => trivial) (fun _ _ => trivial) (fun _ _ _ _ => trivial) (fun _ _ _ _ _ _ => trivial) (fun _ => trivial) n (fun v av vs avs h r _ i => c v av vs avs h r i) h
theorem VRs.ext {b : Heap} {tl tl' : Led} (x : Ext tl tl') {vs : List Value} {avs : List AV} (h : VRs b tl vs avs) : VRs b tl' vs avs := h.ind .nil fun _ _ _ _ h _ r => .cons _ _ _ _ (h.ext x) r
theorem VRs.length {b : Heap} {tl : Led} {vs : List Value} {avs : List AV} (h : VRs b tl vs avs) : vs.length = avs.length := h.ind (P := fun vs avs => vs.length = avs.length) rfl fun _ _ _ _ _ _ e => congrArg (· + 1) e
theorem VRs.get {b : Heap} {tl : Led} {vs : List Value} {avs : List AV} (h : VRs b tl vs avs) : ∀ {i : Nat} {av : AV}, avs[i]? = some av → ∃ v, vs[i]? = some v ∧ VR b tl v av := by
  refine h.ind (P := fun vs avs => ∀ {i : Nat} {av : AV}, avs[i]? = some av → ∃ v, vs[i]? = some v ∧ VR b tl v av) (fun e => nomatch e) fun v av vs avs h _ ih i aw e => ?_
  cases i with
  | zero => exact ⟨v, rfl, Option.some.inj e ▸ h⟩
  | succ i => exact ih (i := i) e
theorem VRs.append {b : Heap} {tl : Led} {vs : List Value} {avs : List AV} {ws : List Value} {aws : List AV} (h : VRs b tl vs avs) (k : VRs b tl ws aws) : VRs b tl (vs ++ ws) (avs ++ aws) :=
  h.ind (P := fun vs avs => VRs b tl (vs ++ ws) (avs ++ aws)) k fun _ _ _ _ h _ r => .cons _ _ _ _ h r
theorem VRs.take {b : Heap} {tl : Led} (n : Nat) : ∀ {vs : List Value} {avs : List AV}, VRs b tl vs avs → VRs b tl (vs.take n) (avs.take n) := by
  induction n with
  | zero => intro vs avs _; simp only [List.take_zero]; exact .nil
  | succ n ih => intro vs avs h; cases h with
    | nil => simp only [List.take_nil]; exact .nil
    | cons v av vs avs h r => simp only [List.take_succ_cons]; exact .cons _ _ _ _ h (ih r)
theorem VRs.drop {b : Heap} {tl : Led} (n : Nat) : ∀ {vs : List Value} {avs : List AV}, VRs b tl vs avs → VRs b tl (vs.drop n) (avs.drop n) := by
  induction n with
  | zero => intro vs avs h; simpa only [List.drop_zero] using h
  | succ n ih => intro vs avs h; cases h with
    | nil => simp only [List.drop_nil]; exact .nil
    | cons v av vs avs h r => simp only [List.drop_succ_cons]; exact ih r
theorem VR.on_str {b : Heap} {tl : Led} {v : Value} {l : List Nat} {P : Value → Prop} (h : VR b tl v (.str l)) (k : ∀ s t, s.cps.toList = l → P (.str s t)) : P v := by
  cases h with | str s t _ e => exact k s t e
theorem VR.on_int {b : Heap} {tl : Led} {v : Value} {i : Int} {P : Value → Prop} (h : VR b tl v (.int i)) (k : ∀ t, P (.int i t)) : P v := by
  cases h; exact k _
theorem VR.on_ref {b : Heap} {tl : Led} {v : Value} {a : Addr} {P : Value → Prop} (h : VR b tl v (.ref a)) (k : P (.ref a)) : P v := by
  cases h; exact k
theorem VR.on_bool {b : Heap} {tl : Led} {v : Value} {x : Bool} {P : Value → Prop} (h : VR b tl v (.bool x)) (k : P (.bool x)) : P v := by
  cases h; exact k
theorem VR.on_tup {b : Heap} {tl : Led} {v : Value} {l : List AV} {P : Value → Prop} (h : VR b tl v (.tup l)) (k : ∀ a vs, TupIn b tl a vs → VRs b tl vs l → P (.ref a)) : P v := by
  cases h with | tup a vs _ x r => exact k a vs x r
theorem VRs.on_nil {b : Heap} {tl : Led} {vs : List Value} {P : List Value → Prop} (h : VRs b tl vs []) (k : P []) : P vs := by
  cases h; exact k
theorem VRs.on_cons {b : Heap} {tl : Led} {vs : List Value} {a : AV} {as : List AV} {P : List Value → Prop} (h : VRs b tl vs (a :: as)) (k : ∀ v r, VR b tl v a → VRs b tl r as → P (v :: r)) : P vs := by
  cases h with | cons v _ r _ x y => exact k v r x y
theorem VRs.on_cons' {b : Heap} {tl : Led} {v : Value} {r : List Value} {a : AV} {as : List AV} {P : Prop} (h : VRs b tl (v :: r) (a :: as)) (k : VR b tl v a → VRs b tl r as → P) : P := by
  cases h with | cons _ _ _ _ x y => exact k x y
theorem VRs.on1 {b : Heap} {tl : Led} {vs : List Value} {a : AV} {P : List Value → Prop} (h : VRs b tl vs [a]) (k : ∀ v, VR b tl v a → P [v]) : P vs := by
  cases h with | cons v _ r _ x y => cases y; exact k v x
inductive AO where
  | lst (l : List AV)
  | inst (C d : Addr)
  | flds (f : List (Str × AV))
  | cell (v : Option AV)
  | dct (l : List (AV × AV))
  | ns (f : List (Str × AV))
  | raw (o : Obj)
inductive FR (b : Heap) (tl : Led) : List DictEntry → List (Str × AV) → Prop
  | nil : FR b tl [] []
  | cons (h : Int) (x : Str) (t : Tok) (v : Value) (av : AV) (es : List DictEntry) (f : List (Str × AV)) : VR b tl v av → FR b tl es f → FR b tl (⟨h, .str x t, v⟩ :: es) ((x, av) :: f)
inductive ER (b : Heap) (tl : Led) (P : Params) : List DictEntry → List (AV × AV) → Prop
  | nil : ER b tl P [] []
  | str (x : Str) (t : Tok) (l : List Nat) (v : Value) (av : AV) (es : List DictEntry) (f : List (AV × AV)) : x.cps.toList = l → VR b tl v av → ER b tl P es f → ER b tl P (⟨PyData.keyHash P x, .str x t, v⟩ :: es) ((.str l, av) :: f)
  | int (i : Int) (t : Tok) (hsh : Int) (v : Value) (av : AV) (es : List DictEntry) (f : List (AV × AV)) : VR b tl v av → ER b tl P es f → ER b tl P (⟨hsh, .int i t, v⟩ :: es) ((.int i, av) :: f)
inductive OR (b : Heap) (tl : Led) (P : Params) : Obj → AO → Prop
  | lst (vs : List Value) (n : Nat) (l : List AV) : VRs b tl vs l → OR b tl P (listOf vs.toArray n) (.lst l)
  | inst (C d : Addr) : OR b tl P (instObj C d) (.inst C d)
  | flds (es : List DictEntry) (n : Nat) (f : List (Str × AV)) : FR b tl es f → OR b tl P (dictOf es n) (.flds f)
  | celln (o : Obj) : o.data = .cell none → OR b tl P o (.cell none)
  | cells (o : Obj) (v : Value) (av : AV) : o.data = .cell (some v) → VR b tl v av → OR b tl P o (.cell (some av))
  | dct (es : List DictEntry) (n : Nat) (f : List (AV × AV)) : ER b tl P es f → OR b tl P (dictOf es n) (.dct f)
  | ns (o : Obj) (es : Array DictEntry) (ep : Nat) (f : List (Str × AV)) : o.data = .dict es ep → StrKeys es → (∀ x av, (x, av) ∈ f → ∃ v, nsFind es x = some v ∧ VR b tl v av) → OR b tl P o (.ns f)
  | raw (o : Obj) : OR b tl P o (.raw o)
theorem FR.ext {b : Heap} {tl tl' : Led} (x : Ext tl tl') {es : List DictEntry} {f : List (Str × AV)} (h : FR b tl es f) : FR b tl' es f :=
  FR.rec (motive := fun es f _ => FR b tl' es f) .nil (fun h y t v av es f k _ r => .cons h y t v av es f (k.ext x) r) h
theorem ER.ext {b : Heap} {tl tl' : Led} {P : Params} (x : Ext tl tl') {es : List DictEntry} {f : List (AV × AV)} (h : ER b tl P es f) : ER b tl' P es f :=
  ER.rec (motive := fun es f _ => ER b tl' P es f) .nil (fun y t l v av es f e k _ r => .str y t l v av es f e (k.ext x) r) (fun i t g v av es f k _ r => .int i t g v av es f (k.ext x) r) h
theorem OR.ext {b : Heap} {tl tl' : Led} {P : Params} (x : Ext tl tl') {o : Obj} {ao : AO} (h : OR b tl P o ao) : OR b tl' P o ao :=
  OR.rec (motive := fun o ao _ => OR b tl' P o ao) (fun vs n l h => .lst vs n l (h.ext x)) .inst (fun es n f h => .flds es n f (h.ext x)) .celln (fun o v av e r => .cells o v av e (r.ext x)) (fun es n f h => .dct es n f (h.ext x))
    (fun o es ep f h k r => .ns o es ep f h k fun y av m => let ⟨v, e, q⟩ := r y av m; ⟨v, e, q.ext x⟩) .raw h
noncomputable abbrev Store := Addr → Option AO
noncomputable def upd (S : Store) (a : Addr) (o : AO) : Store := fun b => if b = a then some o else S b
noncomputable def Subs (S' S : Store) : Prop := ∀ a o, S' a = some o → S a = some o
theorem Subs.refl (S : Store) : Subs S S := fun _ _ h => h
theorem Subs.trans {a b c : Store} (x : Subs a b) (y : Subs b c) : Subs a c := fun p o h => y p o (x p o h)
theorem upd_same (S : Store) (a : Addr) (o : AO) : upd S a o a = some o := if_pos rfl
theorem upd_ne {S : Store} {a b : Addr} {o : AO} (h : b ≠ a) : upd S a o b = S b := if_neg h
theorem upd_upd (S : Store) (a : Addr) (o o' : AO) : upd (upd S a o) a o' = upd S a o' := by
  funext b; unfold upd; split <;> rfl
theorem upd_comm {S : Store} {a b : Addr} {o o' : AO} (h : a ≠ b) : upd (upd S a o) b o' = upd (upd S b o') a o := by
  funext c; unfold upd
  by_cases h1 : c = b
  · by_cases h2 : c = a
    · exact absurd (h2.symm.trans h1) h
    · simp [h1, Ne.symm h]
  · by_cases h2 : c = a
    · simp [h2, h]
    · simp [h1, h2]
structure Wd where
  prog : Program
  w : World
  K : Frag
  b : Heap
  p : Program
  loose : List Str
  mean : ExcName → Option Value
  mg : Str → Option Value
  mb : Str → Option Value
  s0 : Shared
  bad : Addr
structure Wd.Ok (W : Wd) : Prop where
  inK : W.K.In W.b
  top : Top W.p W.loose W.mean W.mg W.mb W.b
structure Blk where
  scope : Scope
  cl : List (Str × Addr)
  C : Addr
structure Fc where
  cn : Str
  cs : Scope
  L : Addr
  a : Addr
  ccd : Value
  cl : List (Str × Addr)
  outer : List Env
  g : Heap
  A1 : Around
  ns : List Str
  blk : Option Blk
noncomputable abbrev Fc.env (Γ : Fc) : Env := envX Γ.cn Γ.cs Γ.L Γ.a Γ.ccd Γ.cl
noncomputable def Fc.ev (Γ : Fc) : Env := match Γ.blk with
  | none => Γ.env
  | some b => compEnvC b.scope b.cl b.C Γ.env
theorem Fc.ev_env {Γ : Fc} (h : Γ.blk = none) : Γ.ev = Γ.env := by unfold Fc.ev; rw [h]
theorem Fc.ev_globals (Γ : Fc) : Γ.ev.globals = mainGlobals := by
  unfold Fc.ev
  cases Γ.blk with
  | none => rfl
  | some b => rfl
structure Fc.Ok (W : Wd) (Γ : Fc) : Prop where
  kind : Γ.cs.kind = .function
  below : Below Γ.A1 W.b Γ.outer Γ.g
  nd : Γ.ns.Nodup
  loc : ∀ x ∈ Γ.ns, Γ.env.kindOf x = some .local
  dbg : ∀ x ∈ Γ.ns, (x == ("__debug__" : Str)) = false
structure AOk (Γ : Fc) (n : Nat) (B : Around) : Prop where
  frames : B.frames = some (Γ.env :: Γ.outer)
  handled : B.handled = none
  depth : B.depth + n < 990
  units : B.units + 20 * n + 100 < cLine
noncomputable abbrev Loc := List (Option AV)
noncomputable def LR (b : Heap) (tl : Led) (ns : List Str) (m : Loc) (mc : Str → Option Value) : Prop :=
  ∀ (i : Nat) (x : Str) (av : AV), ns[i]? = some x → m[i]? = some (some av) → ∃ v, mc x = some v ∧ VR b tl v av
noncomputable def SR (b : Heap) (tl : Led) (P : Params) (S : Store) (cs : Led) : Prop := ∀ a ao, S a = some ao → ∃ o, (a, o) ∈ cs ∧ OR b tl P o ao
structure Sh (s0 s : Shared) : Prop where
  gens : s.gens = s0.gens
  drawn : s.drawn = s0.drawn
  os : s.os = s0.os
structure StC (W : Wd) (Γ : Fc) (hd tl : Led) (m : Loc) (S : Store) (mc : Str → Option Value) (cs : Led) (s : Shared) : Prop where
  fr : Fr Γ.g Γ.L s.heap mc
  nw : News Γ.g Γ.L s.heap (hd ++ tl ++ cs)
  nd : ((hd ++ tl ++ cs).map (·.1)).Nodup
  lr : LR W.b tl Γ.ns m mc
  sr : SR W.b tl W.w.params S cs
  sh : Sh W.s0 s
inductive St (W : Wd) (Γ : Fc) (hd tl : Led) (m : Loc) (S : Store) (s : Shared) : Prop
  | mk (mc : Str → Option Value) (cs : Led) (c : StC W Γ hd tl m S mc cs s)
theorem LR.ext {b : Heap} {tl tl' : Led} {ns : List Str} {m : Loc} {mc : Str → Option Value} (x : Ext tl tl') (h : LR b tl ns m mc) : LR b tl' ns m mc := fun i y av e1 e2 =>
  let ⟨v, q, r⟩ := h i y av e1 e2; ⟨v, q, r.ext x⟩
theorem SR.ext {b : Heap} {tl tl' : Led} {P : Params} {S : Store} {cs : Led} (x : Ext tl tl') (h : SR b tl P S cs) : SR b tl' P S cs := fun a ao e =>
  let ⟨o, q, r⟩ := h a ao e; ⟨o, q, r.ext x⟩
inductive Post (W : Wd) (Γ : Fc) (hd tl : Led) (m : Loc) (Q : AV → Store → Prop) (v : Value) (s : Shared) : Prop
  | mk (av : AV) (S : Store) (tl' : Led) (x : Ext tl tl') (st : St W Γ hd tl' m S s) (r : VR W.b tl' v av) (q : Q av S)
theorem Post.mono {W : Wd} {Γ : Fc} {hd tl : Led} {m : Loc} {Q Q' : AV → Store → Prop} {v : Value} {s : Shared} (h : Post W Γ hd tl m Q v s) (k : ∀ av S, Q av S → Q' av S) : Post W Γ hd tl m Q' v s :=
  let ⟨av, S, tl', x, y, z, q⟩ := h; ⟨av, S, tl', x, y, z, k _ _ q⟩
theorem StC.same {W : Wd} {Γ : Fc} {hd tl : Led} {m : Loc} {S : Store} {mc : Str → Option Value} {cs : Led} {s : Shared} (h : StC W Γ hd tl m S mc cs s) (tk : Nat) : StC W Γ hd tl m S mc cs { s with toks := tk } :=
  ⟨h.fr, h.nw, h.nd, h.lr, h.sr, h.sh.gens, h.sh.drawn, h.sh.os⟩
theorem St.same {W : Wd} {Γ : Fc} {hd tl : Led} {m : Loc} {S : Store} {s : Shared} (h : St W Γ hd tl m S s) (tk : Nat) : St W Γ hd tl m S { s with toks := tk } :=
  let ⟨mc, cs, h⟩ := h; ⟨mc, cs, h.same tk⟩
noncomputable def rep (d : Addr) (o' : Obj) (l : Led) : Led := l.map fun p => if p.1 = d then (d, o') else p
theorem rep_keys (d : Addr) (o' : Obj) (l : Led) : (rep d o' l).map (·.1) = l.map (·.1) := by
  unfold rep
  rw [List.map_map]
  refine List.map_congr_left fun p _ => ?_
  show (if p.1 = d then (d, o') else p).1 = p.1
  split
  · rename_i h; exact h.symm
  · rfl
theorem rep_off {d : Addr} {o' : Obj} {l : Led} (h : d ∉ l.map (·.1)) : rep d o' l = l := by
  unfold rep
  conv => rhs; rw [← List.map_id l]
  refine List.map_congr_left fun p hp => ?_
  rw [if_neg (fun e => h (List.mem_map.mpr ⟨p, hp, e⟩))]; rfl
theorem upd_rep {d : Addr} {o o' : Obj} {l : Led} : (l.map (·.1)).Nodup → (d, o) ∈ l → Upd d o o' l (rep d o' l) := by
  induction l with
  | nil => exact fun _ h => nomatch h
  | cons p r ih =>
    intro nd h
    rw [List.map_cons, List.nodup_cons] at nd
    by_cases e : p.1 = d
    · have hp : p = (d, o) := by
        rcases List.mem_cons.mp h with h | h
        · exact h.symm
        · exact absurd (List.mem_map.mpr ⟨_, h, rfl⟩) (e ▸ nd.1)
      subst hp
      have off : d ∉ r.map (·.1) := nd.1
      have e2 : rep d o' ((d, o) :: r) = (d, o') :: r := by
        show (if (d, o).1 = d then (d, o') else (d, o)) :: rep d o' r = _
        rw [if_pos rfl, rep_off off]
      rw [e2]
      exact Upd.head fun q hq eq => off (List.mem_map.mpr ⟨q, hq, eq⟩)
    · have e2 : rep d o' (p :: r) = p :: rep d o' r := by
        show (if p.1 = d then (d, o') else p) :: rep d o' r = _
        rw [if_neg e]
      rw [e2]
      refine Upd.tail e (ih nd.2 ?_)
      rcases List.mem_cons.mp h with h | h
      · exact absurd (by rw [← h]) e
      · exact h
theorem rep_append (d : Addr) (o' : Obj) (a b : Led) : rep d o' (a ++ b) = rep d o' a ++ rep d o' b := List.map_append
theorem mem_rep {d : Addr} {o' : Obj} {l : Led} {a : Addr} {o : Obj} (h : (a, o) ∈ l) (ne : a ≠ d) : (a, o) ∈ rep d o' l :=
  List.mem_map.mpr ⟨(a, o), h, if_neg ne⟩
theorem mem_rep_self {d : Addr} {o o' : Obj} {l : Led} (h : (d, o) ∈ l) : (d, o') ∈ rep d o' l :=
  List.mem_map.mpr ⟨(d, o), h, if_pos rfl⟩
theorem StC.off {W : Wd} {Γ : Fc} {hd tl : Led} {m : Loc} {S : Store} {mc : Str → Option Value} {cs : Led} {s : Shared} (h : StC W Γ hd tl m S mc cs s) {d : Addr} {o : Obj} (hm : (d, o) ∈ cs) :
    d ∉ (hd ++ tl).map (·.1) := fun q => by
  have nd := h.nd
  rw [List.map_append, List.nodup_append] at nd
  exact nd.2.2 d q d (List.mem_map.mpr ⟨_, hm, rfl⟩) rfl
theorem StC.updOf {W : Wd} {Γ : Fc} {hd tl : Led} {m : Loc} {S : Store} {mc : Str → Option Value} {cs : Led} {s : Shared} (h : StC W Γ hd tl m S mc cs s) {d : Addr} {o o' : Obj} (hm : (d, o) ∈ cs) :
    Upd d o o' (hd ++ tl ++ cs) (hd ++ tl ++ rep d o' cs) := by
  have := upd_rep (o' := o') h.nd (List.mem_append_right _ hm)
  rwa [rep_append, rep_off (h.off hm)] at this
theorem StC.put {W : Wd} {Γ : Fc} {hd tl : Led} {m : Loc} {S : Store} {mc : Str → Option Value} {cs : Led} {s : Shared} (h : StC W Γ hd tl m S mc cs s) {d : Addr} {o o' : Obj} {ao : AO} (hm : (d, o) ∈ cs) {h' : Heap} {tk : Nat}
    (F : Fr Γ.g Γ.L h' mc) (N : News Γ.g Γ.L h' (hd ++ tl ++ rep d o' cs)) (r : OR W.b tl W.w.params o' ao) : StC W Γ hd tl m (upd S d ao) mc (rep d o' cs) { s with heap := h', toks := tk } := by
  refine ⟨F, N, ?_, h.lr, fun a a' e => ?_, h.sh.gens, h.sh.drawn, h.sh.os⟩
  · rw [List.map_append, rep_keys, ← List.map_append]; exact h.nd
  · by_cases q : a = d
    · subst q
      rw [upd_same] at e
      cases e
      exact ⟨o', mem_rep_self hm, r⟩
    · rw [upd_ne q] at e
      obtain ⟨x, hx, y⟩ := h.sr a a' e
      exact ⟨x, mem_rep hx q, y⟩
theorem nodup_new {hd tl cs : Led} {l : Addr} {o : Obj} (nd : ((hd ++ tl ++ cs).map (·.1)).Nodup) (hl : ∀ p ∈ hd ++ tl ++ cs, p.1 < l) : ((hd ++ tl ++ (l, o) :: cs).map (·.1)).Nodup ∧ ((hd ++ (l, o) :: tl ++ cs).map (·.1)).Nodup := by
  have c : (((l, o) :: (hd ++ tl ++ cs)).map (·.1)).Nodup := by
    rw [List.map_cons, List.nodup_cons]
    refine ⟨fun q => ?_, nd⟩
    obtain ⟨p, hp, e⟩ := List.mem_map.mp q
    exact Nat.lt_irrefl _ (e ▸ hl p hp)
  have p1 : List.Perm (hd ++ tl ++ (l, o) :: cs) ((l, o) :: (hd ++ tl ++ cs)) := List.perm_middle
  have p2 : List.Perm (hd ++ (l, o) :: tl ++ cs) ((l, o) :: (hd ++ tl ++ cs)) := by
    have : List.Perm (hd ++ (l, o) :: tl) ((l, o) :: (hd ++ tl)) := List.perm_middle
    exact (this.append_right cs)
  exact ⟨(p1.map _).nodup_iff.mpr c, (p2.map _).nodup_iff.mpr c⟩
theorem News.sub {h₀ h : Heap} {L : Addr} {l l' : Led} (N : News h₀ L h l) (x : ∀ p ∈ l', p ∈ l) : News h₀ L h l' := fun p hp => N p (x p hp)
theorem sub_cs {hd tl cs : Led} {q : Addr × Obj} : ∀ p ∈ hd ++ tl ++ q :: cs, p ∈ q :: (hd ++ tl ++ cs) := fun p hp => by
  simp only [List.mem_append, List.mem_cons] at hp ⊢
  rcases hp with (h | h) | h | h
  · exact .inr (.inl (.inl h))
  · exact .inr (.inl (.inr h))
  · exact .inl h
  · exact .inr (.inr h)
theorem sub_tl {hd tl cs : Led} {q : Addr × Obj} : ∀ p ∈ hd ++ q :: tl ++ cs, p ∈ q :: (hd ++ tl ++ cs) := fun p hp => by
  simp only [List.mem_append, List.mem_cons] at hp ⊢
  rcases hp with (h | h | h) | h
  · exact .inr (.inl (.inl h))
  · exact .inl h
  · exact .inr (.inl (.inr h))
  · exact .inr (.inr h)
theorem StC.new {W : Wd} {Γ : Fc} {hd tl : Led} {m : Loc} {S : Store} {mc : Str → Option Value} {cs : Led} {s : Shared} (h : StC W Γ hd tl m S mc cs s) {l : Addr} {o : Obj} {ao : AO} {h' : Heap} {tk : Nat}
    (F : Fr Γ.g Γ.L h' mc) (N : News Γ.g Γ.L h' ((l, o) :: (hd ++ tl ++ cs))) (hl : ∀ p ∈ hd ++ tl ++ cs, p.1 < l) (r : OR W.b tl W.w.params o ao) :
    StC W Γ hd tl m (upd S l ao) mc ((l, o) :: cs) { s with heap := h', toks := tk } ∧ S l = none := by
  refine ⟨⟨F, News.sub N sub_cs, (nodup_new h.nd hl).1, h.lr, fun a a' e => ?_, h.sh.gens, h.sh.drawn, h.sh.os⟩, ?_⟩
  · by_cases q : a = l
    · subst q
      rw [upd_same] at e
      cases e
      exact ⟨o, .head _, r⟩
    · rw [upd_ne q] at e
      obtain ⟨x, hx, y⟩ := h.sr a a' e
      exact ⟨x, .tail _ hx, y⟩
  · cases q : S l with
    | none => rfl
    | some ao =>
      obtain ⟨x, hx, _⟩ := h.sr l ao q
      exact absurd (hl _ (List.mem_append_right _ hx)) (Nat.lt_irrefl _)
theorem StC.newT {W : Wd} {Γ : Fc} {hd tl : Led} {m : Loc} {S : Store} {mc : Str → Option Value} {cs : Led} {s : Shared} (h : StC W Γ hd tl m S mc cs s) {l : Addr} {o : Obj} {h' : Heap} {tk : Nat}
    (F : Fr Γ.g Γ.L h' mc) (N : News Γ.g Γ.L h' ((l, o) :: (hd ++ tl ++ cs))) (hl : ∀ p ∈ hd ++ tl ++ cs, p.1 < l) :
    StC W Γ hd ((l, o) :: tl) m S mc cs { s with heap := h', toks := tk } :=
  ⟨F, News.sub N sub_tl, (nodup_new h.nd hl).2, h.lr.ext (Ext.cons _ _), h.sr.ext (Ext.cons _ _), h.sh.gens, h.sh.drawn, h.sh.os⟩
theorem Fc.Ok.inK {W : Wd} {Γ : Fc} (hW : W.Ok) (hΓ : Γ.Ok W) : W.K.In Γ.g := hW.inK.keeps hΓ.below.stays
theorem Fc.Ok.top {W : Wd} {Γ : Fc} (hW : W.Ok) (hΓ : Γ.Ok W) : Top W.p W.loose W.mean W.mg W.mb Γ.g := hW.top.keeps hΓ.below.stays
theorem StC.inK {W : Wd} {Γ : Fc} {hd tl : Led} {m : Loc} {S : Store} {mc : Str → Option Value} {cs : Led} {s : Shared} (h : StC W Γ hd tl m S mc cs s) (hW : W.Ok) (hΓ : Γ.Ok W) : W.K.In s.heap := (hΓ.inK hW).keeps h.fr.keep
theorem StC.base {W : Wd} {Γ : Fc} {hd tl : Led} {m : Loc} {S : Store} {mc : Str → Option Value} {cs : Led} {s : Shared} (h : StC W Γ hd tl m S mc cs s) (hΓ : Γ.Ok W) : W.b.StaysIn s.heap := fun b o e => h.fr.keep b o (hΓ.below.stays b o e)
theorem StC.tup {W : Wd} {Γ : Fc} {hd tl : Led} {m : Loc} {S : Store} {mc : Str → Option Value} {cs : Led} {s : Shared} (h : StC W Γ hd tl m S mc cs s) (hΓ : Γ.Ok W) {a : Addr} {vs : List Value} (t : TupIn W.b tl a vs) : IsTup s.heap a vs.toArray := by
  rcases t with ⟨o, ho, hc, n, hd'⟩ | ⟨o, n, hm, hc, hd'⟩
  · exact ⟨o, h.base hΓ _ _ ho, hc, n, hd'⟩
  · exact ⟨o, (h.nw _ (List.mem_append_left _ (List.mem_append_right _ hm))).1, hc, n, hd'⟩
theorem StC.obj {W : Wd} {Γ : Fc} {hd tl : Led} {m : Loc} {S : Store} {mc : Str → Option Value} {cs : Led} {s : Shared} (h : StC W Γ hd tl m S mc cs s) {a : Addr} {ao : AO} (e : S a = some ao) : ∃ o, (a, o) ∈ cs ∧ OR W.b tl W.w.params o ao := h.sr a ao e
inductive Ix (x : Str) : Nat → List Str → Prop
  | z (r : List Str) : Ix x 0 (x :: r)
  | s (y : Str) (n : Nat) (r : List Str) : Ix x n r → Ix x (n + 1) (y :: r)
theorem Ix.get {x : Str} {n : Nat} {l : List Str} (h : Ix x n l) : l[n]? = some x :=
  Ix.rec (motive := fun n l _ => l[n]? = some x) (fun _ => rfl) (fun _ _ _ _ e => e) h
theorem Ix.mem {x : Str} {n : Nat} {l : List Str} (h : Ix x n l) : x ∈ l := List.mem_of_getElem? h.get
theorem StC.store {W : Wd} {Γ : Fc} {hd tl : Led} {m : Loc} {S : Store} {mc : Str → Option Value} {cs : Led} {s : Shared} (h : StC W Γ hd tl m S mc cs s) (hΓ : Γ.Ok W) {x : Str} {i : Nat} {v : Value} {av : AV} (hx : Ix x i Γ.ns) (hv : VR W.b tl v av) {h' : Heap} {tk : Nat}
    (F : Fr Γ.g Γ.L h' (fun y => if y = x then some v else mc y)) (N : News Γ.g Γ.L h' (hd ++ tl ++ cs)) : StC W Γ hd tl (m.set i (some av)) S (fun y => if y = x then some v else mc y) cs { s with heap := h', toks := tk } := by
  refine ⟨F, N, h.nd, fun j y aw e1 e2 => ?_, h.sr, h.sh.gens, h.sh.drawn, h.sh.os⟩
  by_cases q : y = x
  · subst q
    have : j = i := by
      have hj := List.getElem?_eq_some_iff.mp e1
      have hi := List.getElem?_eq_some_iff.mp hx.get
      obtain ⟨hj1, hj2⟩ := hj
      obtain ⟨hi1, hi2⟩ := hi
      exact (List.getElem_inj hΓ.nd).mp (hj2.trans hi2.symm)
    subst this
    rw [List.getElem?_set] at e2
    simp only [if_true] at e2
    split at e2
    · cases e2; exact ⟨v, by simp, hv⟩
    · cases e2
  · have hne : i ≠ j := fun e => q (by
      subst e
      have := hx.get
      rw [e1] at this
      exact Option.some.inj this)
    rw [List.getElem?_set_ne hne] at e2
    obtain ⟨w, hw, r⟩ := h.lr j y aw e1 e2
    exact ⟨w, by simp only [if_neg q]; exact hw, r⟩
end
section
inductive LineOf (od : Obj) (line : Int) : Prop
  | mk (es : Array DictEntry) (ep : Nat) (t : Tok) (hd : od.data = .dict es ep) (hs : StrKeys es) (hf : nsFind es (Str.ofString "line") = some (.int line t))
inductive TxF (b h : Heap) (a d : Addr) (vs : Array Value) (fl : Value) : Prop
  | mk (T : Addr) (oT : Obj) (ts : Array Value) (h1 : vs[1]? = some (.ref T)) (hn : b.get? T = none) (ha : T ≠ a) (hd : T ≠ d) (hT : h.get? T = some oT) (hdT : oT.data = .fields ts) (h3 : ts[3]? = some fl)
inductive Tx (C : Addr) (b h : Heap) (l : List Env) (a : Addr) (line : Int) (st : Option Value) : Prop
  | mk (oe : Obj) (vs : Array Value) (d : Addr) (od : Obj) (he : h.get? a = some oe) (hc : oe.cls = .ref C) (hdi : oe.dict = some d) (hd : oe.data = .fields vs) (hdn : b.get? d = none) (hdf : d ∉ l.filterMap (·.frame)) (hda : d ≠ a)
    (hgd : h.get? d = some od) (hg : LineOf od line) (ht : match st with | none => vs[1]? = some .none | some fl => TxF b h a d vs fl)
structure FliesAt (C : Addr) (b : Heap) (l : List Env) (a : Addr) (line : Int) (h : Heap) (st : Option Value) : Prop where
  stays : b.StaysIn h
  new : b.get? a = none
  frames : h.FunFrames b l
  tx : Tx C b h l a line st
theorem FliesAt.looks {C : Addr} {b : Heap} {l : List Env} {a : Addr} {line : Int} {h : Heap} {st : Option Value} {M : Model} (f : FliesAt C b l a line h st) : Looks M h (typeOf (.ref a)) (.ref C) := by
  obtain ⟨oe, vs, d, od, he, hc, _⟩ := f.tx
  rw [← hc]; exact (Looks.ld he).andThen .now
inductive Flies (C : Addr) (b : Heap) (l : List Env) (a : Addr) (line : Int) (h : Heap) : Prop
  | mk (st : Option Value) (x : FliesAt C b l a line h st) (hst : st = none ∨ st = some .none ∨ ∃ L, (l.head?.bind (·.frame)) = some L ∧ st = some (rawInt L))
inductive ExG (W : Wd) (Γ : Fc) (m : Loc) (s : Shared) : Prop
  | mk (g₂ : Heap) (mc : Str → Option Value) (tl : Led) (fr : Fr Γ.g Γ.L g₂ mc) (lr : LR W.b tl Γ.ns m mc) (up : g₂.UpToSlots s.heap)
inductive Exc (W : Wd) (Γ : Fc) (m : Loc) (v : Value) (line : Int) (s : Shared) : Prop
  | mk (a : Addr) (e : v = .ref a) (sh : Sh W.s0 s) (g : ExG W Γ m s) (fl : Flies W.bad W.b (Γ.env :: Γ.outer) a line s.heap)
inductive XP (W : Wd) (Γ : Fc) (m : Loc) (X : Int → Prop) (v : Value) (s : Shared) : Prop
  | mk (line : Int) (x : X line) (e : Exc W Γ m v line s)
inductive XS (W : Wd) (Γ : Fc) (X : Int → Prop) (v : Value) (s : Shared) : Prop
  | mk (m : Loc) (e : XP W Γ m X v s)
inductive PostV (W : Wd) (Γ : Fc) (hd tl : Led) (m : Loc) (Q : List AV → Store → Prop) (vs : List Value) (s : Shared) : Prop
  | mk (avs : List AV) (S : Store) (tl' : Led) (x : Ext tl tl') (st : St W Γ hd tl' m S s) (r : VRs W.b tl' vs avs) (q : Q avs S)
inductive PostT (W : Wd) (Γ : Fc) (hd tl : Led) (m : Loc) (Q : Bool → Store → Prop) (b : Bool) (s : Shared) : Prop
  | mk (S : Store) (tl' : Led) (x : Ext tl tl') (st : St W Γ hd tl' m S s) (q : Q b S)
inductive PostU (W : Wd) (Γ : Fc) (hd tl : Led) (Q : Loc → Store → Prop) (s : Shared) : Prop
  | mk (m : Loc) (S : Store) (tl' : Led) (x : Ext tl tl') (st : St W Γ hd tl' m S s) (q : Q m S)
theorem Post.ext {W : Wd} {Γ : Fc} {hd tl tl' : Led} {m : Loc} {Q : AV → Store → Prop} {v : Value} {s : Shared} (h : Post W Γ hd tl' m Q v s) (x : Ext tl tl') : Post W Γ hd tl m Q v s :=
  let ⟨av, S, t, y, a, b, c⟩ := h; ⟨av, S, t, x.trans y, a, b, c⟩
theorem Post.val {W : Wd} {Γ : Fc} {hd tl : Led} {m : Loc} {S : Store} {Q : AV → Store → Prop} {v : Value} {av : AV} {s : Shared} (h : St W Γ hd tl m S s) (r : VR W.b tl v av) (q : Q av S) (tk : Nat) : Post W Γ hd tl m Q v { s with toks := tk } :=
  ⟨av, S, tl, Ext.refl _, h.same tk, r, q⟩
theorem Post.now {W : Wd} {Γ : Fc} {hd tl : Led} {m : Loc} {S : Store} {Q : AV → Store → Prop} {v : Value} {av : AV} {s : Shared} (h : St W Γ hd tl m S s) (r : VR W.b tl v av) (q : Q av S) : Post W Γ hd tl m Q v s :=
  ⟨av, S, tl, Ext.refl _, h, r, q⟩
section
variable (W : Wd) (Γ : Fc) (n : Nat)
noncomputable def WE (e : Expr) (m : Loc) (S : Store) (Q : AV → Store → Prop) (X : Int → Prop) : Prop :=
  W.Ok → Γ.Ok W → ∀ B hd tl s, AOk Γ n B → St W Γ hd tl m S s → wpAny (model W.prog W.w) B (eval e Γ.ev) (Post W Γ hd tl m Q) (XP W Γ m X) s
noncomputable def WEs (pos : Pos) (es : List Expr) (m : Loc) (S : Store) (Q : List AV → Store → Prop) (X : Int → Prop) : Prop :=
  W.Ok → Γ.Ok W → ∀ B hd tl s, AOk Γ n B → St W Γ hd tl m S s → wpAny (model W.prog W.w) B (spliced (backTo pos (starEach es Γ.ev)))
    (PostV W Γ hd tl m Q) (XP W Γ m X) s
noncomputable def WT (e : Expr) (m : Loc) (S : Store) (Q : Bool → Store → Prop) (X : Int → Prop) : Prop :=
  W.Ok → Γ.Ok W → ∀ B hd tl s, AOk Γ n B → St W Γ hd tl m S s → wpAny (model W.prog W.w) B (PySem.isTrue e Γ.ev (eval e Γ.ev))
    (PostT W Γ hd tl m Q) (XP W Γ m X) s
noncomputable def WTs (op : BoolOp) (es : List Expr) (m : Loc) (S : Store) (Q : Bool → Store → Prop) (X : Int → Prop) : Prop :=
  W.Ok → Γ.Ok W → ∀ B hd tl s, AOk Γ n B → St W Γ hd tl m S s → wpAny (model W.prog W.w) B (allTrue op es Γ.ev)
    (PostT W Γ hd tl m Q) (XP W Γ m X) s
noncomputable def WB (op : Operator) (x y : AV) (m : Loc) (S : Store) (Q : AV → Store → Prop) (X : Int → Prop) : Prop :=
  W.Ok → Γ.Ok W → ∀ B hd tl s v1 v2, AOk Γ n B → St W Γ hd tl m S s → VR W.b tl v1 x → VR W.b tl v2 y → wpAny (model W.prog W.w) B (binaryOp op v1 v2) (Post W Γ hd tl m Q) (XP W Γ m X) s
noncomputable def WC (op : CmpOp) (x y : AV) (m : Loc) (S : Store) (Q : AV → Store → Prop) (X : Int → Prop) : Prop :=
  W.Ok → Γ.Ok W → ∀ B hd tl s v1 v2, AOk Γ n B → St W Γ hd tl m S s → VR W.b tl v1 x → VR W.b tl v2 y → wpAny (model W.prog W.w) B (compareOp op v1 v2) (Post W Γ hd tl m Q) (XP W Γ m X) s
noncomputable def WI (value slice : Expr) (x y : AV) (m : Loc) (S : Store) (Q : AV → Store → Prop) (X : Int → Prop) : Prop :=
  W.Ok → Γ.Ok W → ∀ B hd tl s v1 v2, AOk Γ n B → St W Γ hd tl m S s → VR W.b tl v1 x → VR W.b tl v2 y → wpAny (model W.prog W.w) B (subscriptTail value slice v1 v2) (Post W Γ hd tl m Q) (XP W Γ m X) s
noncomputable def WF (f : Value) (xs : List AV) (m : Loc) (S : Store) (Q : AV → Store → Prop) (X : Int → Prop) : Prop :=
  W.Ok → Γ.Ok W → ∀ B hd tl s vs, AOk Γ n B → St W Γ hd tl m S s → VRs W.b tl vs xs → wpAny (model W.prog W.w) B (call f vs) (Post W Γ hd tl m Q) (XP W Γ m X) s
inductive Fl where
  | nxt | brk | cnt | ret (av : AV)
inductive FlR (b : Heap) (tl : Led) : Flow → Fl → Prop
  | nxt : FlR b tl .next .nxt
  | brk : FlR b tl .brk .brk
  | cnt : FlR b tl .cont .cnt
  | ret (v : Value) (av : AV) : VR b tl v av → FlR b tl (.ret v) (.ret av)
inductive PostS (hd tl : Led) (Q : Fl → Loc → Store → Prop) (f : Flow) (s : Shared) : Prop
  | mk (fl : Fl) (m : Loc) (S : Store) (tl' : Led) (x : Ext tl tl') (st : St W Γ hd tl' m S s) (r : FlR W.b tl' f fl) (q : Q fl m S)
noncomputable def W1 (st : Stmt) (m : Loc) (S : Store) (Q : Fl → Loc → Store → Prop) (X : Int → Prop) : Prop :=
  W.Ok → Γ.Ok W → ∀ B hd tl s, AOk Γ n B → St W Γ hd tl m S s → wpAny (model W.prog W.w) B (exec st Γ.ev) (PostS W Γ hd tl Q) (XS W Γ X) s
noncomputable def WS (ss : List Stmt) (m : Loc) (S : Store) (Q : Fl → Loc → Store → Prop) (X : Int → Prop) : Prop :=
  W.Ok → Γ.Ok W → ∀ B hd tl s, AOk Γ n B → St W Γ hd tl m S s → wpAny (model W.prog W.w) B (execs ss Γ.ev) (PostS W Γ hd tl Q) (XS W Γ X) s
end
noncomputable abbrev KWB (W : Wd) (Γ : Fc) (n : Nat) (op : Operator) (a : AV) (m : Loc) (Q : AV → Store → Prop) (X : Int → Prop) : AV → Store → Prop := fun b S2 => WB W Γ n op a b m S2 Q X
noncomputable abbrev KBin (W : Wd) (Γ : Fc) (n : Nat) (r : Expr) (op : Operator) (m : Loc) (Q : AV → Store → Prop) (X : Int → Prop) : AV → Store → Prop := fun a S1 => WE W Γ n r m S1 (KWB W Γ n op a m Q X) X
noncomputable abbrev KWC (W : Wd) (Γ : Fc) (n : Nat) (op : CmpOp) (a : AV) (m : Loc) (Q : AV → Store → Prop) (X : Int → Prop) : AV → Store → Prop := fun b S2 => WC W Γ n op a b m S2 Q X
noncomputable abbrev KCmp (W : Wd) (Γ : Fc) (n : Nat) (r : Expr) (op : CmpOp) (m : Loc) (Q : AV → Store → Prop) (X : Int → Prop) : AV → Store → Prop := fun a S1 => WE W Γ n r m S1 (KWC W Γ n op a m Q X) X
noncomputable abbrev KWI (W : Wd) (Γ : Fc) (n : Nat) (l r : Expr) (a : AV) (m : Loc) (Q : AV → Store → Prop) (X : Int → Prop) : AV → Store → Prop := fun b S2 => WI W Γ n l r a b m S2 Q X
noncomputable abbrev KSub (W : Wd) (Γ : Fc) (n : Nat) (l r : Expr) (m : Loc) (Q : AV → Store → Prop) (X : Int → Prop) : AV → Store → Prop := fun a S1 => WE W Γ n r m S1 (KWI W Γ n l r a m Q X) X
inductive KTst (Q : Bool → Store → Prop) (v : AV) (S : Store) : Prop
  | mk (c : Bool) (e : v = .bool c) (q : Q c S)
noncomputable abbrev KArg (Q : List AV → Store → Prop) (a : AV) : List AV → Store → Prop := fun as S2 => Q (a :: as) S2
noncomputable abbrev KArgs (W : Wd) (Γ : Fc) (n : Nat) (pos : Pos) (es : List Expr) (m : Loc) (Q : List AV → Store → Prop) (X : Int → Prop) : AV → Store → Prop := fun a S1 => WEs W Γ n pos es m S1 (KArg Q a) X
noncomputable abbrev KNx (W : Wd) (Γ : Fc) (n : Nat) (ss : List Stmt) (Q : Fl → Loc → Store → Prop) (X : Int → Prop) : Fl → Loc → Store → Prop := fun f m1 S1 => match f with | .nxt => WS W Γ n ss m1 S1 Q X | f => Q f m1 S1
noncomputable abbrev KRet (Q : Fl → Loc → Store → Prop) (m : Loc) : AV → Store → Prop := fun a S1 => Q (.ret a) m S1
noncomputable abbrev KExp (Q : Fl → Loc → Store → Prop) (m : Loc) : AV → Store → Prop := fun _ S1 => Q .nxt m S1
noncomputable abbrev KAsg (Q : Fl → Loc → Store → Prop) (m : Loc) (i : Nat) : AV → Store → Prop := fun a S1 => Q .nxt (m.set i (some a)) S1
noncomputable abbrev KIf (W : Wd) (Γ : Fc) (n : Nat) (a b : List Stmt) (m : Loc) (Q : Fl → Loc → Store → Prop) (X : Int → Prop) : Bool → Store → Prop := fun c S1 => if c = true then WS W Γ n a m S1 Q X else WS W Γ n b m S1 Q X
noncomputable abbrev KCal (W : Wd) (Γ : Fc) (n : Nat) (f : Value) (m : Loc) (Q : AV → Store → Prop) (X : Int → Prop) : List AV → Store → Prop := fun as S1 => WF W Γ n f as m S1 Q X
noncomputable abbrev KCal1 (W : Wd) (Γ : Fc) (n : Nat) (f : Value) (a : AV) (m : Loc) (Q : AV → Store → Prop) (X : Int → Prop) : List AV → Store → Prop := fun as S1 => WF W Γ n f (a :: as) m S1 Q X
section
variable {W : Wd} {Γ : Fc} {n : Nat} {m : Loc} {S : Store} {X : Int → Prop}
theorem PostS.ext {hd tl tl' : Led} {Q : Fl → Loc → Store → Prop} {f : Flow} {s : Shared} (h : PostS W Γ hd tl' Q f s) (x : Ext tl tl') : PostS W Γ hd tl Q f s :=
  let ⟨fl, m, S, t, y, a, b, c⟩ := h; ⟨fl, m, S, t, x.trans y, a, b, c⟩
theorem XP.toS {v : Value} {s : Shared} (h : XP W Γ m X v s) : XS W Γ X v s := ⟨m, h⟩
theorem WE.mono {e : Expr} {Q Q' : AV → Store → Prop} (h : WE W Γ n e m S Q X) (k : ∀ a S', Q a S' → Q' a S') : WE W Γ n e m S Q' X := fun hW hΓ B hd tl s hB hs =>
  wpAny_mono (h hW hΓ B hd tl s hB hs) (fun _ _ p => p.mono k) fun _ _ e => e
theorem WF.mono {f : Value} {xs : List AV} {Q Q' : AV → Store → Prop} (h : WF W Γ n f xs m S Q X) (k : ∀ a S', Q a S' → Q' a S') : WF W Γ n f xs m S Q' X := fun hW hΓ B hd tl s vs hB hs hv =>
  wpAny_mono (h hW hΓ B hd tl s vs hB hs hv) (fun _ _ p => p.mono k) fun _ _ e => e
theorem AOk.le {n' : Nat} {B : Around} (h : AOk Γ n B) (k : n' ≤ n) : AOk Γ n' B := ⟨h.frames, h.handled, Nat.lt_of_le_of_lt (Nat.add_le_add_left k _) h.depth, by have := h.units; lia⟩
theorem AOk.in1 {B : Around} (h : AOk Γ (n + 1) B) : AOk Γ n B.in1 := ⟨h.frames, h.handled, by have := h.depth; show B.depth + n < 990; lia, by have := h.units; show B.units + 1 + _ + _ < _; lia⟩
theorem WF.le {n' : Nat} {f : Value} {xs : List AV} {Q : AV → Store → Prop} (h : WF W Γ n' f xs m S Q X) (k : n' ≤ n) : WF W Γ n f xs m S Q X := fun hW hΓ B hd tl s vs hB hs hv => h hW hΓ B hd tl s vs (hB.le k) hs hv
theorem e_name {x : Str} {pos : Pos} {i : Nat} {av : AV} {Q : AV → Store → Prop} (hx : Ix x i Γ.ns) (hm : m[i]? = some (some av)) (q : Q av S) (hb : Γ.blk = none := by kernel_rfl) : WE W Γ n (.Name x pos) m S Q X := by
  intro hW hΓ B hd tl s hB hs
  rw [Fc.ev_env hb]
  obtain ⟨mc, cs, h⟩ := id hs
  obtain ⟨v, hv, r⟩ := h.lr i x av hx.get hm
  exact nameX_L h.fr hv (.now hs r q) hΓ.kind (hΓ.loc x hx.mem) (hΓ.dbg x hx.mem)
theorem e_int {i : Int} {k : Nat} {pos : Pos} {Q : AV → Store → Prop} (q : Q (.int i) S) : WE W Γ n (.Constant (.int i) k pos) m S Q X := fun _ _ _ _ _ _ _ hs =>
  wpAny_Constant_int (.val hs (.int _ _) q _)
theorem e_str {x : Str} {l : List Nat} {k : Nat} {pos : Pos} {Q : AV → Store → Prop} (hx : x.cps.toList = l) (q : Q (.str l) S) : WE W Γ n (.Constant (.str x) k pos) m S Q X := fun _ _ _ _ _ _ _ hs =>
  wpAny_Constant_str (.val hs (.str _ _ _ hx) q _)
theorem e_lit {x : Str} {l : List Nat} {k : Nat} {pos : Pos} {Q : AV → Store → Prop} (hx : x = ⟨⟨l⟩⟩) (q : Q (.str l) S) : WE W Γ n (.Constant (.str x) k pos) m S Q X :=
  e_str (by rw [hx]) q
theorem e_none {k : Nat} {pos : Pos} {Q : AV → Store → Prop} (q : Q .none S) : WE W Γ n (.Constant .none k pos) m S Q X := fun _ _ _ _ _ _ _ hs =>
  wpAny_Constant_none (.now hs .none q)
theorem e_bool {b : Bool} {k : Nat} {pos : Pos} {Q : AV → Store → Prop} (q : Q (.bool b) S) : WE W Γ n (.Constant (.bool b) k pos) m S Q X := fun _ _ _ _ _ _ _ hs =>
  wpAny_Constant_bool (.now hs (.bool _) q)
theorem e_cell {x : Str} {pos : Pos} {c : Addr} {av : AV} {Q : AV → Store → Prop} (hc : Γ.cl.lookup x = some c) (hm : S c = some (.cell (some av))) (q : Q av S) (hb : Γ.blk = none := by kernel_rfl) (hx : Γ.env.kindOf x = some .cell := by kernel_rfl) (hd : (x == ("__debug__" : Str)) = false := by kernel_rfl) : WE W Γ n (.Name x pos) m S Q X := by
  intro hW hΓ B hd' tl s hB hs
  rw [Fc.ev_env hb]
  obtain ⟨mc, cs, h⟩ := id hs
  obtain ⟨o, ho, r⟩ := h.obj hm
  cases r with
  | cells _ v _ hv r => exact nameX_C h.nw hc (List.mem_append_right _ ho) hv (.now hs r q) hΓ.kind hx hd
theorem e_bname {x : Str} {pos : Pos} {b : Blk} {f : List (Str × AV)} {av : AV} {Q : AV → Store → Prop} (hb : Γ.blk = some b) (hC : S b.C = some (.ns f)) (hf : (x, av) ∈ f) (q : Q av S)
    (hk : b.scope.kind = .function := by kernel_rfl) (hx : Γ.ev.kindOf x = some .local := by kernel_rfl) (hd : (x == ("__debug__" : Str)) = false := by kernel_rfl) : WE W Γ n (.Name x pos) m S Q X := by
  intro hW hΓ B hd' tl s hB hs
  obtain ⟨mc, cs, h⟩ := id hs
  obtain ⟨o, ho, r⟩ := h.obj hC
  cases r with
  | ns _ es ep _ hd1 hsk r =>
    obtain ⟨v, hv, rv⟩ := r x av hf
    have e : Γ.ev = compEnvC b.scope b.cl b.C Γ.env := by unfold Fc.ev; rw [hb]
    rw [e] at hx ⊢
    refine wpAny_Name (wpAny_loadName_local (env := compEnvC b.scope b.cl b.C Γ.env) (m := fun y => nsFind es y) hk hx ⟨o, es, ep, (h.nw _ (List.mem_append_right _ ho)).1, hd1, hsk, fun _ => rfl⟩ hv (.now hs rv q)) hd
theorem e_bfree {x : Str} {pos : Pos} {b : Blk} {c : Addr} {av : AV} {Q : AV → Store → Prop} (hb : Γ.blk = some b) (hc : b.cl.lookup x = some c) (hm : S c = some (.cell (some av))) (q : Q av S)
    (hk : b.scope.kind = .function := by kernel_rfl) (hx : Γ.ev.kindOf x = some .cell := by kernel_rfl) (hd : (x == ("__debug__" : Str)) = false := by kernel_rfl) : WE W Γ n (.Name x pos) m S Q X := by
  intro hW hΓ B hd' tl s hB hs
  obtain ⟨mc, cs, h⟩ := id hs
  obtain ⟨o, ho, r⟩ := h.obj hm
  cases r with
  | cells _ v _ hv r =>
    have e : Γ.ev = compEnvC b.scope b.cl b.C Γ.env := by unfold Fc.ev; rw [hb]
    rw [e] at hx ⊢
    exact wpAny_Name (wpAny_loadName_cell hk hx hc ⟨o, (h.nw _ (List.mem_append_right _ ho)).1, hv⟩ (.now hs r q)) hd
theorem e_bin {l r : Expr} {op : Operator} {pos : Pos} {Q : AV → Store → Prop} (h : WE W Γ n l m S (KBin W Γ n r op m Q X) X) : WE W Γ n (.BinOp l op r pos) m S Q X := by
  intro hW hΓ B hd tl s hB hs
  refine wpAny_BinOp (wpAny_mono (h hW hΓ B hd tl s hB hs) ?_ fun _ _ e => e)
  rintro v1 s1 ⟨a, S1, tl1, x1, st1, r1, q1⟩
  refine wpAny_mono (q1 hW hΓ B hd tl1 s1 hB st1) ?_ fun _ _ e => e
  rintro v2 s2 ⟨b, S2, tl2, x2, st2, r2, q2⟩
  exact wpAny_mono (q2 hW hΓ B hd tl2 s2 v1 v2 hB st2 (r1.ext x2) r2) (fun _ _ p => p.ext (x1.trans x2)) fun _ _ e => e
theorem e_cmp {l r : Expr} {op : CmpOp} {pos : Pos} {Q : AV → Store → Prop} (h : WE W Γ n l m S (KCmp W Γ n r op m Q X) X) (hm : behindInMarks op r = false := by kernel_rfl) : WE W Γ n (.Compare l [op] [r] pos) m S Q X := by
  intro hW hΓ B hd tl s hB hs
  refine wpAny_Compare1 (wpAny_mono (h hW hΓ B hd tl s hB hs) ?_ fun _ _ e => e) hm
  rintro v1 s1 ⟨a, S1, tl1, x1, st1, r1, q1⟩
  refine wpAny_mono (q1 hW hΓ B hd tl1 s1 hB st1) ?_ fun _ _ e => e
  rintro v2 s2 ⟨b, S2, tl2, x2, st2, r2, q2⟩
  exact wpAny_mono (q2 hW hΓ B hd tl2 s2 v1 v2 hB st2 (r1.ext x2) r2) (fun _ _ p => p.ext (x1.trans x2)) fun _ _ e => e
theorem e_sub {l r : Expr} {pos : Pos} {Q : AV → Store → Prop} (h : WE W Γ n l m S (KSub W Γ n l r m Q X) X) : WE W Γ n (.Subscript l r pos) m S Q X := by
  intro hW hΓ B hd tl s hB hs
  refine Subscript_ (wpAny_mono (h hW hΓ B hd tl s hB hs) ?_ fun _ _ e => e)
  rintro v1 s1 ⟨a, S1, tl1, x1, st1, r1, q1⟩
  refine wpAny_mono (q1 hW hΓ B hd tl1 s1 hB st1) ?_ fun _ _ e => e
  rintro v2 s2 ⟨b, S2, tl2, x2, st2, r2, q2⟩
  exact wpAny_mono (q2 hW hΓ B hd tl2 s2 v1 v2 hB st2 (r1.ext x2) r2) (fun _ _ p => p.ext (x1.trans x2)) fun _ _ e => e
theorem e_if {t a b : Expr} {pos : Pos} {Q : AV → Store → Prop} (h : WT W Γ n t m S (fun c S1 => if c = true then WE W Γ n a m S1 Q X else WE W Γ n b m S1 Q X) X) : WE W Γ n (.IfExp t a b pos) m S Q X := by
  intro hW hΓ B hd tl s hB hs
  refine wpAny_IfExp (wpAny_mono (h hW hΓ B hd tl s hB hs) ?_ fun _ _ e => e)
  rintro c s1 ⟨S1, tl1, x1, st1, q1⟩
  cases c with
  | true => rw [if_pos rfl] at q1 ⊢; exact wpAny_mono (q1 hW hΓ B hd tl1 s1 hB st1) (fun _ _ p => p.ext x1) fun _ _ e => e
  | false => rw [if_neg (by decide)] at q1 ⊢; exact wpAny_mono (q1 hW hΓ B hd tl1 s1 hB st1) (fun _ _ p => p.ext x1) fun _ _ e => e
theorem t_cmp {l r : Expr} {op : CmpOp} {pos : Pos} {Q : Bool → Store → Prop} (h : WE W Γ n l m S (KCmp W Γ n r op m (KTst Q) X) X)
    (hm : behindInMarks op r = false := by kernel_rfl) : WT W Γ n (.Compare l [op] [r] pos) m S Q X := by
  intro hW hΓ B hd tl s hB hs
  refine wpAny_isTrue_Compare1 (wpAny_mono (h hW hΓ B hd tl s hB hs) ?_ fun _ _ e => e) hm
  rintro v1 s1 ⟨a, S1, tl1, x1, st1, r1, q1⟩
  refine wpAny_mono (q1 hW hΓ B hd tl1 s1 hB st1) ?_ fun _ _ e => e
  rintro v2 s2 ⟨b, S2, tl2, x2, st2, r2, q2⟩
  refine wpAny_mono (q2 hW hΓ B hd tl2 s2 v1 v2 hB st2 (r1.ext x2) r2) ?_ fun _ _ e => e
  rintro v3 s3 ⟨c, S3, tl3, x3, st3, r3, c', rfl, q3⟩
  apply VR.on_bool r3
  exact wpAny_truthy_bool ⟨S3, tl3, (x1.trans x2).trans x3, st3, q3⟩
theorem t_not {e : Expr} {pos : Pos} {Q : Bool → Store → Prop} (h : WT W Γ n e m S (fun c S1 => Q (!c) S1) X) : WT W Γ n (.UnaryOp .Not e pos) m S Q X := fun hW hΓ B hd tl s hB hs =>
  wpAny_isTrue_Not (wpAny_mono (h hW hΓ B hd tl s hB hs) (fun _ _ ⟨S1, tl1, x, y, z⟩ => ⟨S1, tl1, x, y, z⟩) fun _ _ e => e)
theorem t_val {e : Expr} {Q : Bool → Store → Prop} (h : WE W Γ n e m S (KTst Q) X)
    (he : ∀ env whole, PySem.isTrue e env whole = (do let v ← whole; standAt e.pos; holding [v] (truthy v)) := by intro _ _; kernel_rfl) : WT W Γ n e m S Q X := by
  intro hW hΓ B hd tl s hB hs
  refine wpAny_isTrue_value (wpAny_mono (h hW hΓ B hd tl s hB hs) ?_ fun _ _ e => e) (he _ _)
  rintro v3 s3 ⟨c, S3, tl3, x3, st3, r3, c', rfl, q3⟩
  apply VR.on_bool r3
  exact wpAny_truthy_bool ⟨S3, tl3, x3, st3, q3⟩
theorem t_bool {op : BoolOp} {es : List Expr} {pos : Pos} {Q : Bool → Store → Prop} (h : WTs W Γ n op es m S Q X) : WT W Γ n (.BoolOp op es pos) m S Q X := fun hW hΓ B hd tl s hB hs =>
  wpAny_isTrue_BoolOp (h hW hΓ B hd tl s hB hs)
theorem ts_and {e : Expr} {es : List Expr} {Q : Bool → Store → Prop} (h : WT W Γ n e m S (fun c S1 => if c = true then WTs W Γ n .And es m S1 Q X else Q false S1) X) : WTs W Γ n .And (e :: es) m S Q X := by
  intro hW hΓ B hd tl s hB hs
  refine wpAny_allTrue_And_cons (wpAny_mono (h hW hΓ B hd tl s hB hs) ?_ fun _ _ e => e)
  rintro c s1 ⟨S1, tl1, x1, st1, q1⟩
  cases c with
  | true => rw [if_pos rfl] at q1 ⊢; exact wpAny_mono (q1 hW hΓ B hd tl1 s1 hB st1) (fun _ _ ⟨S2, tl2, x2, r, q⟩ => ⟨S2, tl2, x1.trans x2, r, q⟩) fun _ _ e => e
  | false => rw [if_neg (by decide)] at q1 ⊢; exact ⟨S1, tl1, x1, st1, q1⟩
theorem ts_or {e : Expr} {es : List Expr} {Q : Bool → Store → Prop} (h : WT W Γ n e m S (fun c S1 => if c = true then Q true S1 else WTs W Γ n .Or es m S1 Q X) X) : WTs W Γ n .Or (e :: es) m S Q X := by
  intro hW hΓ B hd tl s hB hs
  refine wpAny_allTrue_Or_cons (wpAny_mono (h hW hΓ B hd tl s hB hs) ?_ fun _ _ e => e)
  rintro c s1 ⟨S1, tl1, x1, st1, q1⟩
  cases c with
  | true => rw [if_pos rfl] at q1 ⊢; exact ⟨S1, tl1, x1, st1, q1⟩
  | false => rw [if_neg (by decide)] at q1 ⊢; exact wpAny_mono (q1 hW hΓ B hd tl1 s1 hB st1) (fun _ _ ⟨S2, tl2, x2, r, q⟩ => ⟨S2, tl2, x1.trans x2, r, q⟩) fun _ _ e => e
theorem ts_and_nil {Q : Bool → Store → Prop} (q : Q true S) : WTs W Γ n .And [] m S Q X := fun _ _ _ _ tl _ _ hs => wpAny_allTrue_And_nil ⟨S, tl, Ext.refl _, hs, q⟩
theorem ts_or_nil {Q : Bool → Store → Prop} (q : Q false S) : WTs W Γ n .Or [] m S Q X := fun _ _ _ _ tl _ _ hs => wpAny_allTrue_Or_nil ⟨S, tl, Ext.refl _, hs, q⟩
theorem es_nil {pos : Pos} {Q : List AV → Store → Prop} (q : Q [] S) : WEs W Γ n pos [] m S Q X := fun _ _ _ _ tl _ _ hs =>
  spliced_nil ⟨[], S, tl, Ext.refl _, hs, .nil, q⟩
theorem es_cons {pos : Pos} {e : Expr} {es : List Expr} {Q : List AV → Store → Prop} (h : WE W Γ n e m S (KArgs W Γ n pos es m Q X) X)
    (hs : ∀ env, starEach (e :: es) env = (false, eval e env) :: starEach es env := by intro _; kernel_rfl) : WEs W Γ n pos (e :: es) m S Q X := by
  intro hW hΓ B hd tl s hB hst
  rw [hs]
  show wpAny _ _ (spliced ((false, eval e Γ.ev) :: backTo pos (starEach es Γ.ev))) _ _ _
  refine spliced_cons (wpAny_mono (h hW hΓ B hd tl s hB hst) ?_ fun _ _ e => e)
  rintro v1 s1 ⟨a, S1, tl1, x1, st1, r1, q1⟩
  refine wpAny_mono (q1 hW hΓ B hd tl1 s1 hB st1) ?_ fun _ _ e => e
  rintro vs s2 ⟨as, S2, tl2, x2, st2, r2, q2⟩
  exact ⟨a :: as, S2, tl2, x1.trans x2, st2, .cons _ _ _ _ (r1.ext x2) r2, q2⟩
inductive KLst (Q : AV → Store → Prop) (as : List AV) (S : Store) : Prop
  | mk (hz : as.length ≤ 10000) (q : ∀ l, S l = none → Q (.ref l) (upd S l (.lst as)))
inductive KTup (Q : AV → Store → Prop) (as : List AV) (S : Store) : Prop
  | mk (hz : as.length ≤ 10000) (q : Q (.tup as) S)
theorem e_list {es : List Expr} {pos : Pos} {Q : AV → Store → Prop} (h : WEs W Γ n pos es m S (KLst Q) X) : WE W Γ n (.List es pos) m S Q X := by
  intro hW hΓ B hd tl s hB hs
  refine List_ (wpAny_mono (h hW hΓ B hd tl s hB hs) ?_ fun _ _ e => e)
  rintro vs s1 ⟨as, S1, tl1, x1, ⟨mc, cs, st1⟩, r1, hlen, q1⟩
  refine newList_K st1.fr st1.nw (fun l h' F N hl => ?_) (by rw [r1.length, sizeLine_eq]; lia)
  obtain ⟨st2, hn⟩ := st1.new (tk := s1.toks) F N hl (.lst _ _ _ r1)
  exact ⟨.ref l, _, tl1, x1, ⟨_, _, st2⟩, .ref _, q1 l hn⟩
theorem e_tuple {es : List Expr} {k : Nat} {pos : Pos} {Q : AV → Store → Prop} (h : WEs W Γ n pos es m S (KTup Q) X) : WE W Γ n (.Tuple es k pos) m S Q X := by
  intro hW hΓ B hd tl s hB hs
  refine Tuple_ (wpAny_mono (h hW hΓ B hd tl s hB hs) ?_ fun _ _ e => e)
  rintro vs s1 ⟨as, S1, tl1, x1, ⟨mc, cs, st1⟩, r1, hlen, q1⟩
  refine newTuple_N st1.fr st1.nw (fun h' F N => ?_) (by rw [r1.length, sizeLine_eq]; lia)
  have st2 := st1.newT (tk := s1.toks) F N (fun p hp => Heap.lt_size (st1.nw p hp).1)
  exact ⟨.tup as, S1, _, x1.trans (Ext.cons _ _), ⟨_, _, st2⟩, .tup _ _ _ (.inr ⟨_, _, .head _, rfl, rfl⟩) (r1.ext (Ext.cons _ _)), q1⟩
theorem s_nil {Q : Fl → Loc → Store → Prop} (q : Q .nxt m S) : WS W Γ n [] m S Q X := fun _ _ _ _ tl _ _ hs =>
  wpAny_execs_nil ⟨.nxt, m, S, tl, Ext.refl _, hs, .nxt, q⟩
theorem s_cons {st : Stmt} {ss : List Stmt} {Q : Fl → Loc → Store → Prop} (h : W1 W Γ n st m S (KNx W Γ n ss Q X) X) : WS W Γ n (st :: ss) m S Q X := by
  intro hW hΓ B hd tl s hB hs
  refine wpAny_execs_cons (wpAny_mono (h hW hΓ B hd tl s hB hs) ?_ fun _ _ e => e)
  rintro f s1 ⟨fl, m1, S1, tl1, x1, st1, r1, q1⟩
  cases r1 with
  | nxt => exact wpAny_mono (q1 hW hΓ B hd tl1 s1 hB st1) (fun _ _ p => p.ext x1) fun _ _ e => e
  | brk => exact ⟨.brk, m1, S1, tl1, x1, st1, .brk, q1⟩
  | cnt => exact ⟨.cnt, m1, S1, tl1, x1, st1, .cnt, q1⟩
  | ret v av r => exact ⟨.ret av, m1, S1, tl1, x1, st1, .ret _ _ r, q1⟩
theorem s_ret {e : Expr} {pos : Pos} {Q : Fl → Loc → Store → Prop} (h : WE W Γ n e m S (KRet Q m) X) : W1 W Γ n (.Return (some e) pos) m S Q X := by
  intro hW hΓ B hd tl s hB hs
  refine wpAny_Return_some (wpAny_mono (h hW hΓ B hd tl s hB hs) ?_ fun _ _ e => e.toS)
  rintro v s1 ⟨a, S1, tl1, x1, st1, r1, q1⟩
  exact ⟨.ret a, m, S1, tl1, x1, st1, .ret _ _ r1, q1⟩
theorem s_if {t : Expr} {a b : List Stmt} {pos : Pos} {Q : Fl → Loc → Store → Prop} (h : WT W Γ n t m S (KIf W Γ n a b m Q X) X) : W1 W Γ n (.If t a b pos) m S Q X := by
  intro hW hΓ B hd tl s hB hs
  refine wpAny_If (wpAny_mono (h hW hΓ B hd tl s hB hs) ?_ fun _ _ e => e.toS)
  rintro c s1 ⟨S1, tl1, x1, st1, q1⟩
  dsimp only [KIf] at q1
  cases c with
  | true => rw [if_pos rfl] at q1 ⊢; exact wpAny_mono (q1 hW hΓ B hd tl1 s1 hB st1) (fun _ _ p => p.ext x1) fun _ _ e => e
  | false => rw [if_neg (by decide)] at q1 ⊢; exact wpAny_mono (q1 hW hΓ B hd tl1 s1 hB st1) (fun _ _ p => p.ext x1) fun _ _ e => e
theorem s_expr {e : Expr} {pos : Pos} {Q : Fl → Loc → Store → Prop} (h : WE W Γ n e m S (KExp Q m) X) (hi : interactive Γ.ev = false := by kernel_rfl) (hs : swapsWith e none pos.line Γ.ev = pure false := by kernel_rfl) : W1 W Γ n (.Expr e pos) m S Q X := by
  intro hW hΓ B hd tl s hB hst
  refine wpAny_Expr_any (wpAny_mono (h hW hΓ B hd tl s hB hst) ?_ fun _ _ e => e.toS) hi hs
  rintro v s1 ⟨a, S1, tl1, x1, st1, r1, q1⟩
  exact ⟨.nxt, m, S1, tl1, x1, st1, .nxt, q1⟩
theorem s_name {x : Str} {e : Expr} {p' pos : Pos} {i : Nat} {Q : Fl → Loc → Store → Prop} (hx : Ix x i Γ.ns) (h : WE W Γ n e m S (KAsg Q m i) X) (hb : Γ.blk = none := by kernel_rfl) (hs : swapsWith e (some (.Name x p')) pos.line Γ.ev = pure false := by kernel_rfl) :
    W1 W Γ n (.Assign [.Name x p'] e pos) m S Q X := by
  intro hW hΓ B hd tl s hB hst
  refine wpAny_Assign_Name (wpAny_mono (h hW hΓ B hd tl s hB hst) ?_ fun _ _ e => e.toS) hs
  rintro v s1 ⟨a, S1, tl1, x1, ⟨mc, cs, st1⟩, r1, q1⟩
  rw [Fc.ev_env hb]
  refine storeX_L st1.fr st1.nw (fun h' F N => ?_) hΓ.kind (hΓ.loc x hx.mem)
  exact ⟨.nxt, _, S1, tl1, x1, ⟨_, _, st1.store hΓ hx r1 F N⟩, .nxt, q1⟩
end
end
section
section
variable {M : Model} {A : Around} {E : Value → Shared → Prop} {s : Shared} {b : Heap} {env : Env} {outer : List Env} {L a C : Addr} {line : Int}
theorem entryX {oe : Obj} {vs : Array Value} {head : Value} {nx : Bool} {Q : Unit → Shared → Prop} (hfr : A.frames = some (env :: outer)) (hl : s.heap.FunFrames b (env :: outer)) (hf : env.frame = some L)
    (he : s.heap.get? a = some oe) (hd : oe.data = .fields vs) (hsz : 1 < vs.size)
    (h : ∀ (h' : Heap) (T : Addr) (oT : Obj) (ts : Array Value), h'.get? a = some (oe.mapFields (·.setIfInBounds 1 (.ref T))) → h'.get? T = some oT → oT.data = .fields ts → ts[3]? = some (rawInt L) → s.heap.get? T = none →
      (∀ x o, x ≠ a → x ∉ (env :: outer).filterMap (·.frame) → s.heap.get? x = some o → h'.get? x = some o) → (∀ x o, x ≠ a → s.heap.get? x = some o → ∃ sl, h'.get? x = some { o with slots := sl }) → Q () { s with heap := h' }) :
    wpAny M A (do let a' ← frameOf env; let pl ← entryPlaceOf L nx; let e ← EntryCells.newEntry head a' .none (rawInt L) .none pl; setField (.ref a) 1 e) Q E s := by
  have hna : a ∉ (env :: outer).filterMap (·.frame) := fun hm => by
    obtain ⟨_, o, ho, hnf⟩ := hl.mem hm
    rw [he] at ho; cases ho; exact hnf vs hd
  refine wpAny_bind (wpAny_frameOf_fun hfr hl hf fun h₁ hs => wpAny_bind (wpAny_entryPlaceOf fun pl hpl => ?_))
  unfold EntryCells.newEntry newFields
  refine wpAny_bind (wpAny_newObj_type ?_ (hpl.sizeOk5 _ _ _ _ _))
  have he₁ : h₁.get? a = some oe := (hs.2.1 a hna).trans he
  have ha : h₁.objs.size ≠ a := Nat.ne_of_gt (Heap.lt_size he₁)
  have he₂ := Heap.get?_push_of_some (h := h₁) { cls := .type "traceback", dict := none, data := .fields ([head, .ref L, .none, rawInt L, .none] ++ (if pl.isEmpty then List.replicate 6 Value.none else pl)).toArray } he₁
  refine wpAny_setField he₂ hd hsz (h _ h₁.objs.size _ _ (Heap.get?_update_self _ he₂ (Obj.isFreed_of_fields (Obj.data_mapFields hd _))) ((Heap.get?_update_other _ _ (Ne.symm ha)).trans (Heap.get?_push_size h₁ rfl)) rfl ?_ ?_ ?_ ?_)
  · simp
  · rw [hs.1]
    exact Heap.get?_none_of_le (Nat.le_refl _)
  · intro x o hx hn hxo
    exact (Heap.get?_update_other _ _ (Ne.symm hx)).trans (Heap.get?_push_of_some _ ((hs.2.1 x hn).trans hxo))
  · intro x o hx hxo
    obtain ⟨sl, hsl⟩ := hs.2.2 x o hxo
    exact ⟨sl, (Heap.get?_update_other _ _ (Ne.symm hx)).trans (Heap.get?_push_of_some _ hsl)⟩
theorem FliesAt.upTo {l : List Env} {st : Option Value} {h h' : Heap} (_x : FliesAt C b l a line h st) (k : ∀ x o, x ≠ a → h.get? x = some o → ∃ sl, h'.get? x = some { o with slots := sl }) (hf : ∃ oe vs, h.get? a = some oe ∧ oe.data = .fields vs) : h.UpToSlots h' := fun x o e hn => by
  by_cases q : x = a
  · obtain ⟨oe, vs, he, hd⟩ := hf
    subst q
    rw [he] at e; cases e
    exact absurd hd (hn vs)
  · exact k x o q e
theorem flies_entry {head : Value} {nx : Bool} {st : Option Value} {Q : Unit → Shared → Prop} (hfr : A.frames = some (env :: outer)) (hf : env.frame = some L) (x : FliesAt C b (env :: outer) a line s.heap st)
    (h : ∀ h', FliesAt C b (env :: outer) a line h' (some (rawInt L)) → s.heap.UpToSlots h' → Q () { s with heap := h' }) :
    wpAny M A (do let a' ← frameOf env; let pl ← entryPlaceOf L nx; let e ← EntryCells.newEntry head a' .none (rawInt L) .none pl; setField (.ref a) 1 e) Q E s := by
  obtain ⟨oe, vs, d, od, he, hc, hdi, hd, hdn, hdf, hda, hgd, hg, hst⟩ := x.tx
  have hsz : 1 < vs.size := by
    cases st with
    | none => exact (Array.getElem?_eq_some_iff.mp hst).1
    | some fl => obtain ⟨T, oT, ts, h1, _⟩ := hst; exact (Array.getElem?_eq_some_iff.mp h1).1
  refine entryX hfr x.frames hf he hd hsz fun h' T oT ts e1 e2 e3 e4 e5 k1 k2 => h h' ⟨fun y o hy => ?_, x.new, ?_, ?_⟩ (x.upTo k2 ⟨_, _, he, hd⟩)
  · refine k1 y o (fun q => ?_) (fun q => ?_) (x.stays y o hy)
    · rw [q, x.new] at hy; cases hy
    · rw [(x.frames.mem q).1] at hy; cases hy
  · refine x.frames.of_keeps fun y o hy hn => ?_
    by_cases q : y = a
    · subst q; rw [he] at hy; cases hy; exact absurd hd (hn vs)
    · obtain ⟨sl, hsl⟩ := k2 y o q hy
      exact ⟨_, hsl, rfl⟩
  · have hTn : b.get? T = none := by
      cases q : b.get? T with
      | none => rfl
      | some o => have := x.stays T o q; rw [e5] at this; cases this
    have hTa : T ≠ a := fun q => by rw [q, he] at e5; cases e5
    have hTd : T ≠ d := fun q => by rw [q, hgd] at e5; cases e5
    refine ⟨_, _, d, od, e1, ?_, ?_, Obj.data_mapFields hd _, hdn, hdf, hda, k1 d _ hda hdf hgd, hg, T, oT, ts, ?_, hTn, hTa, hTd, e2, e3, e4⟩
    · rw [Obj.cls_mapFields]; exact hc
    · obtain ⟨c0, d0, da0, sl0⟩ := oe
      dsimp only at hd hdi
      subst hd
      exact hdi
    · simp [hsz]
theorem flies_flight {l : List Env} {fl : Value} {f : Option Addr} {Q : Unit → Shared → Prop} (x : FliesAt C b l a line s.heap (some fl))
    (h : ∀ h', FliesAt C b l a line h' (some (f.elim .none fun g => rawInt g)) → s.heap.UpToSlots h' → Q () { s with heap := h' }) : wpAny M A (setFlight (.ref a) f) Q E s := by
  obtain ⟨oe, vs, d, od, he, hc, hdi, hd, hdn, hdf, hda, hgd, hg, T, oT, ts, h1, hTn, hTa, hTd, hT, hdT, h3⟩ := x.tx
  have hsz3 : 3 < ts.size := (Array.getElem?_eq_some_iff.mp h3).1
  unfold setFlight
  refine wpAny_bind (wpAny_field he hd h1 ?_)
  rw [if_pos (show (Value.ref T != Value.none) = true from by simp)]
  have other : ∀ y, y ≠ T → (s.heap.update T (Obj.mapFields (·.setIfInBounds 3 (f.elim Value.none fun g => rawInt g)))).get? y = s.heap.get? y := fun y hy => Heap.get?_update_other _ _ (Ne.symm hy)
  have noRec : ∀ y o, s.heap.get? y = some o → (∀ vs, o.data ≠ .fields vs) → y ≠ T := fun y o hy hn q => by
    rw [q, hT] at hy; cases hy; exact hn ts hdT
  refine wpAny_setField hT hdT hsz3 (h _ ⟨fun y o hy => (other y fun q => ?_).trans (x.stays y o hy), x.new, x.frames.of_keeps fun y o hy hn => ⟨o, (other y (noRec y o hy hn)).trans hy, rfl⟩, ?_⟩ fun y o hy hn => ⟨o.slots, (other y (noRec y o hy hn)).trans hy⟩)
  · rw [q, hTn] at hy; cases hy
  · exact ⟨oe, vs, d, od, (other a (Ne.symm hTa)).trans he, hc, hdi, hd, hdn, hdf, hda, (other d (Ne.symm hTd)).trans hgd, hg, T, _, _, h1, hTn, hTa, hTd, Heap.get?_update_self _ hT (Obj.isFreed_of_fields (Obj.data_mapFields hdT _)), Obj.data_mapFields hdT _, by simp [hsz3]⟩
theorem flies_note {Q : Unit → Shared → Prop} (hfr : A.frames = some (env :: outer)) (hf : env.frame = some L) (x : Flies C b (env :: outer) a line s.heap)
    (h : ∀ h', FliesAt C b (env :: outer) a line h' (some (rawInt L)) → s.heap.UpToSlots h' → Q () { s with heap := h' }) : wpAny M A (noteFrame (.ref a) env) Q E s := by
  obtain ⟨st, x, hst⟩ := x
  obtain ⟨oe, vs, d, od, he, hc, hdi, hd, hdn, hdf, hda, hgd, hg, ht⟩ := id x.tx
  unfold noteFrame
  simp only [hf]
  rcases hst with rfl | rfl | ⟨L', hL', rfl⟩
  · refine wpAny_bind (wpAny_field he hd ht ?_)
    rw [if_neg (by decide)]
    exact flies_entry hfr hf x h
  · obtain ⟨T, oT, ts, h1, hTn, hTa, hTd, hT, hdT, h3⟩ := ht
    refine wpAny_bind (wpAny_field he hd h1 ?_)
    rw [if_pos (show (Value.ref T != Value.none) = true from by simp)]
    refine wpAny_bind (wpAny_field hT hdT h3 ?_)
    rw [if_neg (show ¬ ((Value.none == rawInt L) = true) from by simp [rawInt])]
    have hsz3 : 3 < ts.size := (Array.getElem?_eq_some_iff.mp h3).1
    have other : ∀ y, y ≠ T → (s.heap.update T (Obj.mapFields (·.setIfInBounds 3 Value.none))).get? y = s.heap.get? y := fun y hy => Heap.get?_update_other _ _ (Ne.symm hy)
    have noRec : ∀ y o, s.heap.get? y = some o → (∀ vs, o.data ≠ .fields vs) → y ≠ T := fun y o hy hn q => by
      rw [q, hT] at hy; cases hy; exact hn ts hdT
    refine wpAny_bind (wpAny_setField hT hdT hsz3 ?_)
    refine flies_entry (s := { s with heap := s.heap.update T (Obj.mapFields (·.setIfInBounds 3 Value.none)) }) (st := some .none) hfr hf ⟨fun y o hy => (other y fun q => ?_).trans (x.stays y o hy), x.new, x.frames.of_keeps fun y o hy hn => ⟨o, (other y (noRec y o hy hn)).trans hy, rfl⟩, ?_⟩ fun h' x' u => h h' x' ?_
    · rw [q, hTn] at hy; cases hy
    · exact ⟨oe, vs, d, od, (other a (Ne.symm hTa)).trans he, hc, hdi, hd, hdn, hdf, hda, (other d (Ne.symm hTd)).trans hgd, hg, T, _, _, h1, hTn, hTa, hTd, Heap.get?_update_self _ hT (Obj.isFreed_of_fields (Obj.data_mapFields hdT _)), Obj.data_mapFields hdT _, by simp [hsz3]⟩
    · exact Heap.UpToSlots.trans (fun y o hy hn => ⟨o.slots, (other y (noRec y o hy hn)).trans hy⟩) u
  · have e : L' = L := by
      simp only [List.head?_cons, Option.bind_some, hf, Option.some.injEq] at hL'
      exact hL'.symm
    subst e
    obtain ⟨T, oT, ts, h1, hTn, hTa, hTd, hT, hdT, h3⟩ := ht
    refine wpAny_bind (wpAny_field he hd h1 ?_)
    rw [if_pos (show (Value.ref T != Value.none) = true from by simp)]
    refine wpAny_bind (wpAny_field hT hdT h3 ?_)
    rw [if_pos (show (rawInt L' == rawInt L') = true from by simp)]
    exact wpAny_pure (h s.heap x (Heap.UpToSlots.refl _))
theorem flies_leave {Q : Unit → Shared → Prop} (hfr : A.frames = some (env :: outer)) (hf : env.frame = some L) (x : Flies C b (env :: outer) a line s.heap)
    (h : ∀ h', Flies C b outer a line h' → s.heap.UpToSlots h' → Q () { s with heap := h' }) : wpAny M A (leaving env (.ref a)) Q E s := by
  unfold leaving
  refine wpAny_bind (flies_note hfr hf x fun h₁ x₁ u₁ => ?_)
  refine flies_flight (s := { s with heap := h₁ }) x₁ fun h₂ x₂ u₂ => h h₂ ⟨some .none, ⟨x₂.stays, x₂.new, ?_, ?_⟩, .inr (.inl rfl)⟩ (u₁.trans u₂)
  · obtain ⟨_, _, k⟩ := x₂.frames
    exact k
  · obtain ⟨oe, vs, d, od, he, hc, hdi, hd, hdn, hdf, hda, hgd, hg, ht⟩ := x₂.tx
    refine ⟨oe, vs, d, od, he, hc, hdi, hd, hdn, fun q => hdf ?_, hda, hgd, hg, ht⟩
    rw [List.filterMap_cons, hf]
    exact .tail _ q
theorem flies_loop {Q : Value → Shared → Prop} (hfr : A.frames = some (env :: outer)) (hf : env.frame = some L) (x : Flies C b (env :: outer) a line s.heap)
    (h : ∀ h', Flies C b (env :: outer) a line h' → s.heap.UpToSlots h' → Q (.ref a) { s with heap := h' }) : notedBy M A env (fun e s' => cameBackBy M A env Q e s') (.ref a) s := by
  unfold notedBy
  refine flies_note hfr hf x fun h₁ x₁ u₁ => ?_
  unfold cameBackBy
  obtain ⟨oe, vs, d, od, he, hc, hdi, hd, hdn, hdf, hda, hgd, hg, T, oT, ts, h1, hTn, hTa, hTd, hT, hdT, h3⟩ := id x₁.tx
  refine wpAny_bind (wpAny_field (s := { s with heap := h₁ }) he hd h1 ?_)
  rw [if_neg (show ¬ ((Value.ref T == Value.none) = true) from by simp)]
  rw [hf]
  refine flies_flight (s := { s with heap := h₁ }) x₁ fun h₂ x₂ u₂ => h h₂ ⟨_, x₂, .inr (.inr ⟨L, ?_, rfl⟩)⟩ (u₁.trans u₂)
  simp only [List.head?_cons, Option.bind_some, hf]
end
inductive FnTh (W : Wd) (f : Addr) (qual : Str) (params : Arguments) (body : List Stmt) (scope : Scope) (cd : Value) : Prop
  | mk (fo : Obj) (name : Str) (dV kV doc pm : Value) (an : Option Addr) (ct : Value) (hfo : W.b.get? f = some fo) (hc : fo.cls = .type "function") (hd : fo.data = .func (fnX name qual params body scope [] dV kV doc pm an cd ct))
    (hb : ∀ s vs, vs.length = params.args.length → BindsTo s (fnX name qual params body scope [] dV kV doc pm an cd ct) ⟨vs, []⟩ ((params.args.map (·.arg)).zip vs))
structure FnAt (W : Wd) (f : Addr) (qual : Str) (params : Arguments) (body : List Stmt) (scope : Scope) (cd : Value) : Prop where
  there : FnTh W f qual params body scope cd
  code : W.b.CodeRec cd qual
structure Rho where
  L : Addr
  a : Addr
  ccd : Value
  outer : List Env
  g : Heap
  A1 : Around
noncomputable def mkΓ (cn : Str) (cs : Scope) (cl : List (Str × Addr)) (ns : List Str) (ρ : Rho) : Fc :=
  { cn, cs, L := ρ.L, a := ρ.a, ccd := ρ.ccd, cl, outer := ρ.outer, g := ρ.g, A1 := ρ.A1, ns, blk := none }
theorem SR.sub {b : Heap} {tl : Led} {P : Params} {S S' : Store} {cs : Led} (h : SR b tl P S cs) (x : Subs S' S) : SR b tl P S' cs := fun a ao e => h a ao (x a ao e)
theorem St.sub {W : Wd} {Γ : Fc} {hd tl : Led} {m : Loc} {S S' : Store} {s : Shared} (h : St W Γ hd tl m S s) (x : Subs S' S) : St W Γ hd tl m S' s :=
  let ⟨mc, cs, c⟩ := h; ⟨mc, cs, c.fr, c.nw, c.nd, c.lr, c.sr.sub x, c.sh⟩
structure NamesOk (params : Arguments) (scope : Scope) (ns : List Str) : Prop where
  pre : ∃ r, ns = params.args.map (·.arg) ++ r
  nd : ns.Nodup
  loc : ∀ x ∈ ns, scope.names.lookup x = some .local
  dbg : ∀ x ∈ ns, (x == ("__debug__" : Str)) = false
  kind : scope.kind = .function
  nocell : ∀ x ∈ scope.names, x.2 ≠ .cell
  co : scope.isCoroutine = false
  gen : scope.isGenerator = false
noncomputable def loc0 (ns : List Str) (avs : List AV) : Loc := avs.map some ++ List.replicate (ns.length - avs.length) none
noncomputable def RetQ (Q : AV → Store → Prop) : Fl → Loc → Store → Prop
  | .ret av, _, S => ∃ S', Subs S' S ∧ Q av S'
  | .nxt, _, S => ∃ S', Subs S' S ∧ Q .none S'
  | _, _, _ => False
theorem ret_now {Q : AV → Store → Prop} {av : AV} {m : Loc} {S : Store} (q : Q av S) : RetQ Q (.ret av) m S := ⟨S, Subs.refl _, q⟩
theorem nxt_now {Q : AV → Store → Prop} {m : Loc} {S : Store} (q : Q .none S) : RetQ Q .nxt m S := ⟨S, Subs.refl _, q⟩
theorem lookup_zip {ks : List Str} (nd : ks.Nodup) : ∀ {vs : List Value} {i : Nat} {x : Str} {v : Value}, ks[i]? = some x → vs[i]? = some v → (ks.zip vs).lookup x = some v := by
  induction ks with
  | nil => intro vs i x v h; simp at h
  | cons k ks ih =>
    intro vs i x v h1 h2
    rw [List.nodup_cons] at nd
    cases vs with
    | nil => simp at h2
    | cons w vs =>
      cases i with
      | zero => simp only [List.getElem?_cons_zero, Option.some.injEq] at h1 h2; subst h1 h2; simp [List.zip_cons_cons]
      | succ i =>
        simp only [List.getElem?_cons_succ] at h1 h2
        have hne : (x == k) = false := beq_eq_false_iff_ne.mpr fun e => nd.1 (e ▸ List.mem_of_getElem? h1)
        rw [List.zip_cons_cons, List.lookup_cons, hne]
        exact ih nd.2 h1 h2
theorem lookup_rev {l : List (Str × Value)} (nd : (l.map (·.1)).Nodup) (x : Str) : l.reverse.lookup x = l.lookup x := by
  induction l with
  | nil => rfl
  | cons p r ih =>
    obtain ⟨k, v⟩ := p
    rw [List.map_cons, List.nodup_cons] at nd
    rw [List.reverse_cons, List.lookup_append, ih nd.2, List.lookup_cons]
    by_cases q : (x == k) = true
    · rw [q]
      have hx : x = k := beq_iff_eq.mp q
      have : r.lookup x = none := by
        rw [List.lookup_eq_none_iff]
        intro p hp
        exact bne_iff_ne.mpr fun e => nd.1 (List.mem_map.mpr ⟨p, hp, by rw [← hx]; exact e.symm⟩)
      rw [this]
      simp [List.lookup_cons, q]
    · have q' : (x == k) = false := by cases h : (x == k) with | true => exact absurd h q | false => rfl
      rw [q']
      simp [List.lookup_cons, q']
theorem loc0_get {ns : List Str} {avs : List AV} {i : Nat} {av : AV} (h : (loc0 ns avs)[i]? = some (some av)) : avs[i]? = some av := by
  unfold loc0 at h
  by_cases q : i < avs.length
  · rw [List.getElem?_append_left (by simpa using q), List.getElem?_map] at h
    obtain ⟨a, ha, e⟩ := Option.map_eq_some_iff.mp h
    cases e; exact ha
  · rw [List.getElem?_append_right (by simpa using Nat.le_of_not_lt q)] at h
    have := List.mem_of_getElem? h
    rw [List.mem_replicate] at this
    cases this.2
noncomputable def WK (W : Wd) (Γ : Fc) (n : Nat) (f : Value) (xs : List AV) (m : Loc) (S : Store) (Q : AV → Store → Prop) (X : Int → Prop) : Prop :=
  W.Ok → Γ.Ok W → ∀ B hd tl s vs (R : Result → Shared → Prop), AOk Γ n B → St W Γ hd tl m S s → VRs W.b tl vs xs → (∀ v s', Post W Γ hd tl m Q v s' → R (.ok (.ret v)) s') → (∀ e s', XP W Γ m X e s' → R (.error e) s') →
    codeAny (model W.prog W.w) B (.call f ⟨vs, []⟩) R s
theorem WK.toF {W : Wd} {Γ : Fc} {n : Nat} {f : Value} {xs : List AV} {m : Loc} {S : Store} {Q : AV → Store → Prop} {X : Int → Prop} (h : WK W Γ n f xs m S Q X) : WF W Γ n f xs m S Q X := fun hW hΓ B hd tl s vs hB hs hv =>
  wpAny_call (h hW hΓ B hd tl s vs _ hB hs hv (fun _ _ p => p) fun _ _ e => e)
section
variable {W : Wd} {Γ : Fc} {n : Nat} {m : Loc} {S : Store} {X : Int → Prop}
theorem enter {f : Addr} {qual : Str} {params : Arguments} {body : List Stmt} {scope : Scope} {cd : Value} {ns : List Str} {avs : List AV} {Q : AV → Store → Prop}
    (hf : FnAt W f qual params body scope cd) (hn : NamesOk params scope ns) (hlen : avs.length = params.args.length)
    (h : ∀ ρ : Rho, WS W (mkΓ qual scope [] ns ρ) n body (loc0 ns avs) S (RetQ Q) X) : WK W Γ (n + 1) (.ref f) avs m S Q X := by
  intro hW hΓ B hd tl s vs R hB hs hv hR hE
  obtain ⟨mc, cs, hc⟩ := hs
  obtain ⟨⟨fo, name, dV, kV, doc, pm, an, ct, hfo, _, hfd, hbind⟩, hcode⟩ := hf
  have hlv : vs.length = params.args.length := hv.length.trans hlen
  obtain ⟨r0, hr0⟩ := hn.pre
  have ndp : (params.args.map (·.arg)).Nodup := by
    have := hn.nd; rw [hr0] at this; exact (List.nodup_append.mp this).1
  have hkeys : ((params.args.map (·.arg)).zip vs).map (·.1) = params.args.map (·.arg) := by
    rw [List.map_fst_zip]; simp [hlv]
  refine (callX_plain (env := Γ.env) (cl := []) (fo := fo) hΓ.below hc.fr hc.nw (hΓ.top hW).nolimit hB.frames rfl hΓ.kind (hc.base hΓ _ _ hfo) hfd
    (hcode.keeps (hc.base hΓ)) (by have := hB.depth; show B.depth < 1000; lia) (hbind s vs hlv) (fun y hy => ?_) (fun g L' h₁ FG F' N' B' st' l' => ?_) hn.nocell hn.co hn.gen hn.kind)
  · refine hn.loc y.1 ?_
    rw [hr0, ← hkeys]
    exact List.mem_append_left _ (List.mem_map.mpr ⟨y, hy, rfl⟩)
  · let ρ : Rho := ⟨L', f, cd, Γ.env :: Γ.outer, g, B⟩
    let Γ' := mkΓ qual scope [] ns ρ
    have ok' : Γ'.Ok W := ⟨hn.kind, B', hn.nd, fun x hx => hn.loc x hx, hn.dbg⟩
    have aok' : AOk Γ' n (B.deeper Γ'.env) := by
      refine ⟨Around.frames_deeper hB.frames, hB.handled, ?_, ?_⟩
      · have := hB.depth; show B.depth + 1 + n < 990; lia
      · have := hB.units; show B.units + 3 + 20 * n + 100 < cLine; lia
    have st1 : St W Γ' hd tl (loc0 ns avs) S { s with heap := h₁, toks := s.toks + ((params.args.map (·.arg)).zip vs).length } := by
      refine ⟨_, cs, F', N', hc.nd, fun i x av e1 e2 => ?_, hc.sr, hc.sh.gens, hc.sh.drawn, hc.sh.os⟩
      have e2' := loc0_get e2
      obtain ⟨v, hv1, hv2⟩ := hv.get e2'
      refine ⟨v, ?_, hv2⟩
      have hi : i < (params.args.map (·.arg)).length := by
        have := (List.getElem?_eq_some_iff.mp e2').1
        simp only [List.length_map]; lia
      have e1' : (params.args.map (·.arg))[i]? = some x := by
        have e1'' : ns[i]? = some x := e1
        rw [hr0, List.getElem?_append_left hi] at e1''
        exact e1''
      show List.lookup x ((params.args.map (·.arg)).zip vs).reverse = some v
      rw [lookup_rev (by rw [hkeys]; exact ndp)]
      exact lookup_zip ndp e1' hv1
    refine wpAny_mono (h ρ hW ok' (B.deeper Γ'.env) hd tl _ aok' st1) ?_ ?_
    · rintro fl s' ⟨afl, m', S', tl', x', ⟨mc', cs', hc'⟩, rf, q⟩
      have back : ∀ (v : Value) (av : AV), VR W.b tl' v av → (∃ S2, Subs S2 S' ∧ Q av S2) → LeaveK Γ.g Γ.L mc g R v s' := fun v av rv ⟨S2, sb, qv⟩ =>
        ⟨L', mc', hd ++ tl' ++ cs', hc'.fr, hc'.nw, fun F'' N'' => hR _ _ ⟨av, S2, tl', x', ⟨mc, cs', F'', N'', hc'.nd, hc.lr.ext x', hc'.sr.sub sb, hc'.sh⟩, rv, qv⟩⟩
      cases rf with
      | nxt => exact back .none .none .none q
      | brk => exact q.elim
      | cnt => exact q.elim
      | ret v av rv => exact back v av rv q
    · rintro e s' ⟨m', line, hX, a, rfl, hsh, ⟨g₂, mc₂, tl₂, F₂, _, u₂⟩, fl⟩
      refine flies_leave (Around.frames_deeper hB.frames) rfl fl fun h' fl' u' => hE _ _ ⟨line, hX, a, rfl, ⟨hsh.gens, hsh.drawn, hsh.os⟩, ⟨g, mc, tl, FG, hc.lr, ?_⟩, fl'⟩
      exact (Heap.UpToSlots.of_keeps F₂.keep).trans (u₂.trans u')
noncomputable abbrev pnames (params : Arguments) : List Str := params.args.map (·.arg)
structure NamesOkC (params : Arguments) (scope : Scope) (ns : List Str) (xc : Str) : Prop where
  ndp : (params.args.map (·.arg)).Nodup
  nd : ns.Nodup
  loc : ∀ x ∈ ns, scope.names.lookup x = some .local
  pars : ∀ x ∈ params.args.map (·.arg), scope.names.lookup x = some .local ∨ x = xc
  cell : scope.names.lookup xc = some .cell
  cells : ∀ n, cellsFrom n scope.names [] = [(xc, n)]
  dbg : ∀ x ∈ ns, (x == ("__debug__" : Str)) = false
  kind : scope.kind = .function
  co : scope.isCoroutine = false
  gen : scope.isGenerator = false
theorem bindL_off {kindOf : Str → Option NameKind} {x : Str} : ∀ {l : List (Str × Value)} {m : Str → Option Value}, x ∉ l.map (·.1) → bindL kindOf l m x = m x
  | [], _, _ => rfl
  | (n, v) :: r, m, h => by
    rw [List.map_cons, List.mem_cons, not_or] at h
    unfold bindL
    rw [bindL_off h.2]
    split
    · simp [h.1]
    · rfl
theorem bindL_get {kindOf : Str → Option NameKind} {x : Str} {v : Value} (hk : kindOf x = some .local) : ∀ {l : List (Str × Value)} {m : Str → Option Value}, (l.map (·.1)).Nodup → (x, v) ∈ l → bindL kindOf l m x = some v
  | (n, w) :: r, m, nd, h => by
    rw [List.map_cons, List.nodup_cons] at nd
    unfold bindL
    rcases List.mem_cons.mp h with e | h
    · cases e
      rw [bindL_off nd.1, if_pos hk]; simp
    · exact bindL_get hk nd.2 h
theorem bindC_off {kindOf : Str → Option NameKind} {x : Str} : ∀ {l : List (Str × Value)} {m : Str → Option Value}, x ∉ l.map (·.1) → bindC kindOf l m x = m x
  | [], _, _ => rfl
  | (n, v) :: r, m, h => by
    rw [List.map_cons, List.mem_cons, not_or] at h
    unfold bindC
    rw [bindC_off h.2]
    split
    · rfl
    · simp [h.1]
theorem bindC_get {kindOf : Str → Option NameKind} {x : Str} {v : Value} (hk : kindOf x = some .cell) : ∀ {l : List (Str × Value)} {m : Str → Option Value}, (l.map (·.1)).Nodup → (x, v) ∈ l → bindC kindOf l m x = some v
  | (n, w) :: r, m, nd, h => by
    rw [List.map_cons, List.nodup_cons] at nd
    unfold bindC
    rcases List.mem_cons.mp h with e | h
    · cases e
      rw [bindC_off nd.1, if_neg (by rw [hk]; intro q; cases q)]; simp
    · exact bindC_get hk nd.2 h
theorem mem_zip_of {ks : List Str} {vs : List Value} {j : Nat} {x : Str} {v : Value} (h1 : ks[j]? = some x) (h2 : vs[j]? = some v) : (x, v) ∈ ks.zip vs :=
  List.mem_of_getElem? (i := j) (by rw [List.getElem?_zip_eq_some]; exact ⟨h1, h2⟩)
theorem enterC {f : Addr} {qual : Str} {params : Arguments} {body : List Stmt} {scope : Scope} {cd : Value} {ns : List Str} {xc : Str} {avs : List AV} {m0 : Loc} {cv : Option AV} {Q : AV → Store → Prop}
    (hf : FnAt W f qual params body scope cd) (hn : NamesOkC params scope ns xc) (hlen : avs.length = params.args.length)
    (hm : ∀ (i : Nat) (x : Str) (av : AV), ns[i]? = some x → m0[i]? = some (some av) → ∃ j : Nat, (pnames params)[j]? = some x ∧ avs[j]? = some av)
    (hcv : match cv with | some av => ∃ j : Nat, (pnames params)[j]? = some xc ∧ avs[j]? = some av | none => xc ∉ pnames params)
    (h : ∀ (ρ : Rho) c, S c = none → WS W (mkΓ qual scope [(xc, c)] ns ρ) n body m0 (upd S c (.cell cv)) (RetQ Q) X) : WK W Γ (n + 1) (.ref f) avs m S Q X := by
  intro hW hΓ B hd tl s vs R hB hs hv hR hE
  obtain ⟨mc, cs, hc⟩ := hs
  obtain ⟨⟨fo, name, dV, kV, doc, pm, an, ct, hfo, _, hfd, hbind⟩, hcode⟩ := hf
  have hlv : vs.length = params.args.length := hv.length.trans hlen
  have hkeys : ((params.args.map (·.arg)).zip vs).map (·.1) = params.args.map (·.arg) := by
    rw [List.map_fst_zip]; simp [hlv]
  have hcd : Γ.g.CodeRec cd qual := hcode.keeps hΓ.below.stays
  refine (callX_cells (env := Γ.env) (fo := fo) hΓ.below hc.fr hc.nw (hΓ.top hW).nolimit hB.frames rfl hΓ.kind (hc.base hΓ _ _ hfo) hfd
    (hcode.keeps (hc.base hΓ)) (by have := hB.depth; show B.depth < 1000; lia) (hbind s vs hlv) (fun n' y hy => ?_) (by rw [hn.cells]; simp) (fun g L' h₁ tk cells FG F' N' Y B' st' l' => ?_) hn.co hn.gen hn.kind)
  · have : y.1 ∈ params.args.map (·.arg) := by rw [← hkeys]; exact List.mem_map.mpr ⟨y, hy, rfl⟩
    rcases hn.pars _ this with q | q
    · exact .inl q
    · rw [q]; exact .inr ⟨hn.cell, by rw [hn.cells]; simp⟩
  · rw [hn.cells] at Y
    obtain ⟨oc, rfl, hoc⟩ := Y.one
    let ρ : Rho := ⟨L', f, cd, Γ.env :: Γ.outer, g, B⟩
    let Γ' := mkΓ qual scope [(xc, L' + 1)] ns ρ
    have ee : envOfC qual scope L' f cd = Γ'.env := by
      show envOfC qual scope L' f cd = envX qual scope L' f cd [(xc, L' + 1)]
      unfold envOfC; rw [hn.cells]
    have ok' : Γ'.Ok W := ⟨hn.kind, B', hn.nd, fun x hx => hn.loc x hx, hn.dbg⟩
    have aok' : AOk Γ' n (B.deeper Γ'.env) := by
      refine ⟨Around.frames_deeper hB.frames, hB.handled, ?_, ?_⟩
      · have := hB.depth; show B.depth + 1 + n < 990; lia
      · have := hB.units; show B.units + 3 + 20 * n + 100 < cLine; lia
    have hlt : ∀ p ∈ hd ++ tl ++ cs, p.1 < L' + 1 := fun p hp => Nat.lt_succ_of_lt (l' p hp)
    have hSn : S (L' + 1) = none := by
      cases q : S (L' + 1) with
      | none => rfl
      | some ao =>
        obtain ⟨x, hx, _⟩ := hc.sr _ ao q
        exact absurd (hlt _ (List.mem_append_right _ hx)) (Nat.lt_irrefl _)
    have kx : ∀ x, (envOfC qual scope L' f cd).kindOf x = scope.names.lookup x := fun _ => rfl
    have orc : OR W.b tl W.w.params oc (.cell cv) := by
      cases cv with
      | none =>
        refine .celln _ ?_
        rw [hoc, bindC_off (by rw [hkeys]; exact hcv)]
      | some av =>
        obtain ⟨j, h1, h2⟩ := hcv
        obtain ⟨v, hv1, hv2⟩ := hv.get h2
        refine .cells _ v av ?_ hv2
        rw [hoc, bindC_get (by rw [kx]; exact hn.cell) (by rw [hkeys]; exact hn.ndp) (mem_zip_of h1 hv1)]
    have st1 : St W Γ' hd tl m0 (upd S (L' + 1) (.cell cv)) { s with heap := h₁, toks := tk } := by
      refine ⟨_, (L' + 1, oc) :: cs, F', News.sub N' sub_cs, (nodup_new hc.nd hlt).1, fun i x av e1 e2 => ?_, fun a' ao e => ?_, hc.sh.gens, hc.sh.drawn, hc.sh.os⟩
      · obtain ⟨j, h1, h2⟩ := hm i x av e1 e2
        obtain ⟨v, hv1, hv2⟩ := hv.get h2
        exact ⟨v, bindL_get (by rw [kx]; exact hn.loc x (List.mem_of_getElem? e1)) (by rw [hkeys]; exact hn.ndp) (mem_zip_of h1 hv1), hv2⟩
      · by_cases q : a' = L' + 1
        · subst q; rw [upd_same] at e; cases e; exact ⟨oc, .head _, orc⟩
        · rw [upd_ne q] at e
          obtain ⟨o, ho, r⟩ := hc.sr a' ao e
          exact ⟨o, .tail _ ho, r⟩
    rw [ee]
    refine wpAny_mono (h ρ (L' + 1) hSn hW ok' (B.deeper Γ'.env) hd tl _ aok' st1) ?_ ?_
    · rintro fl s' ⟨afl, m', S', tl', x', ⟨mc', cs', hc'⟩, rf, q⟩
      have back : ∀ (v : Value) (av : AV), VR W.b tl' v av → (∃ S2, Subs S2 S' ∧ Q av S2) → LeaveK Γ.g Γ.L mc g R v s' := fun v av rv ⟨S2, sb, qv⟩ =>
        ⟨L', mc', hd ++ tl' ++ cs', hc'.fr, hc'.nw, fun F'' N'' => hR _ _ ⟨av, S2, tl', x', ⟨mc, cs', F'', N'', hc'.nd, hc.lr.ext x', hc'.sr.sub sb, hc'.sh⟩, rv, qv⟩⟩
      cases rf with
      | nxt => exact back .none .none .none q
      | brk => exact q.elim
      | cnt => exact q.elim
      | ret v av rv => exact back v av rv q
    · rintro e s' ⟨m', line, hX, a, rfl, hsh, ⟨g₂, mc₂, tl₂, F₂, _, u₂⟩, fl⟩
      refine flies_leave (Around.frames_deeper hB.frames) rfl fl fun h' fl' u' => hE _ _ ⟨line, hX, a, rfl, ⟨hsh.gens, hsh.drawn, hsh.os⟩, ⟨g, mc, tl, FG, hc.lr, ?_⟩, fl'⟩
      exact (Heap.UpToSlots.of_keeps F₂.keep).trans (u₂.trans u')
theorem s_while {test : Expr} {body : List Stmt} {pos : Pos} {Q : Fl → Loc → Store → Prop} (I : Nat → Loc → Store → Prop) (k0 : Nat) (h0 : I k0 m S)
    (turn : ∀ k m1 S1, I k m1 S1 → WT W Γ n test m1 S1 (fun c S2 => if c = true then WS W Γ n body m1 S2 (fun f m2 S3 => match f with
      | .nxt => ∃ k', k' < k ∧ I k' m2 S3
      | .cnt => ∃ k', k' < k ∧ I k' m2 S3
      | .brk => Q .nxt m2 S3
      | .ret v => Q (.ret v) m2 S3) X else Q .nxt m1 S2) X) (hb : Γ.blk = none := by kernel_rfl) : W1 W Γ n (.While test body [] pos) m S Q X := by
  intro hW hΓ B hd tl s hB hs
  have loopX : ∀ (e : Value) (s' : Shared), XS W Γ X e s' → notedBy (model W.prog W.w) B Γ.ev (fun e s' => cameBackBy (model W.prog W.w) B Γ.ev (XS W Γ X) e s') e s' := by
    rintro e s' ⟨m', line, hX, a, rfl, hsh, ⟨g₂, mc₂, tl₂, F₂, lr, u₂⟩, fl⟩
    rw [Fc.ev_env hb]
    exact flies_loop hB.frames rfl fl fun h' fl' u' => ⟨m', line, hX, a, rfl, ⟨hsh.gens, hsh.drawn, hsh.os⟩, ⟨g₂, mc₂, tl₂, F₂, lr, u₂.trans u'⟩, fl'⟩
  refine wpAny_While (codeAny_whileLoop (fun k s' => ∃ m1 S1 tl1, Ext tl tl1 ∧ St W Γ hd tl1 m1 S1 s' ∧ I k m1 S1) (fun k s1 ⟨m1, S1, tl1, x1, st1, i1⟩ => ?_) k0 ⟨m, S, tl, Ext.refl _, hs, h0⟩)
  refine wpAny_mono (turn k m1 S1 i1 hW hΓ B hd tl1 s1 hB st1) ?_ fun e s' hx => loopX e s' hx.toS
  rintro c s2 ⟨S2, tl2, x2, st2, q2⟩
  cases c with
  | false =>
    rw [if_neg (by decide)] at q2 ⊢
    exact wpAny_execs_nil ⟨.nxt, m1, S2, tl2, x1.trans x2, st2, .nxt, q2⟩
  | true =>
    rw [if_pos rfl] at q2 ⊢
    refine wpAny_mono (q2 hW hΓ B hd tl2 s2 hB st2) ?_ loopX
    rintro f s3 ⟨fl, m3, S3, tl3, x3, st3, rf, q3⟩
    cases rf with
    | nxt => obtain ⟨k', lt, i⟩ := q3; exact ⟨k', lt, m3, S3, tl3, (x1.trans x2).trans x3, st3, i⟩
    | cnt => obtain ⟨k', lt, i⟩ := q3; exact ⟨k', lt, m3, S3, tl3, (x1.trans x2).trans x3, st3, i⟩
    | brk => exact ⟨.nxt, m3, S3, tl3, (x1.trans x2).trans x3, st3, .nxt, q3⟩
    | ret v av rv => exact ⟨.ret av, m3, S3, tl3, (x1.trans x2).trans x3, st3, .ret _ _ rv, q3⟩
end
end
section
noncomputable def fget (x : Str) (f : List (Str × AV)) : Option AV := match f with
  | [] => none
  | (y, v) :: r => if y == x then some v else fget x r
noncomputable def fset (x : Str) (v : AV) (f : List (Str × AV)) : List (Str × AV) := match f with
  | [] => [(x, v)]
  | (y, w) :: r => if y == x then (y, v) :: r else (y, w) :: fset x v r
theorem isStr_key (y x : Str) (t : Tok) : (Value.str y t).isStr x = (y == x) := by
  show (y == x) = _; rfl
theorem VR.handed {b : Heap} {tl : Led} {v : Value} {av : AV} (h : VR b tl v av) : handedIn v = true := by cases h <;> rfl
theorem getL_cons (x : Str) (e : DictEntry) (es : List DictEntry) (h : e.refKey = false) : getL x (e :: es) = if e.key.isStr x then some (some e.val) else getL x es := by
  unfold getL
  rw [List.find?_cons]
  cases q : e.key.isStr x with
  | true => simp
  | false => simp [List.any_cons, h]
theorem FR.get {b : Heap} {tl : Led} {x : Str} {es : List DictEntry} {f : List (Str × AV)} (h : FR b tl es f) : ∀ {av : AV}, fget x f = some av → ∃ v, getL x es = some (some v) ∧ VR b tl v av := by
  refine FR.rec (motive := fun es f _ => ∀ {av : AV}, fget x f = some av → ∃ v, getL x es = some (some v) ∧ VR b tl v av) (fun e => nomatch e) (fun h y t v w es f hv r ih av e => ?_) h
  · rw [getL_cons _ _ _ rfl]
    show ∃ v', (if (Value.str y t).isStr x then some (some v) else getL x es) = some (some v') ∧ _
    rw [isStr_key]
    unfold fget at e
    split at e
    · rename_i q; cases e; rw [if_pos q]; exact ⟨v, rfl, hv⟩
    · rename_i q; rw [if_neg q]; exact ih e
theorem FR.miss {b : Heap} {tl : Led} {x : Str} {es : List DictEntry} {f : List (Str × AV)} (h : FR b tl es f) : fget x f = none → getL x es = some none := by
  refine FR.rec (motive := fun es f _ => fget x f = none → getL x es = some none) (fun _ => rfl) (fun h y t v w es f hv r ih e => ?_) h
  · rw [getL_cons _ _ _ rfl]
    show (if (Value.str y t).isStr x then some (some v) else getL x es) = _
    rw [isStr_key]
    unfold fget at e
    split at e
    · cases e
    · rename_i q; rw [if_neg q]; exact ih e
theorem FR.isSome {b : Heap} {tl : Led} {es : List DictEntry} {f : List (Str × AV)} (r : FR b tl es f) (x : Str) : (getL x es).isSome = true := by
  cases q : fget x f with
  | none => rw [r.miss q]; rfl
  | some av => obtain ⟨v, hv, _⟩ := r.get q; rw [hv]; rfl
theorem FR.put {b : Heap} {tl : Led} {x : Str} {hsh : Int} {t : Tok} {v : Value} {av : AV} (hv : VR b tl v av) {es : List DictEntry} {f : List (Str × AV)} (h : FR b tl es f) : FR b tl (putL x hsh (.str x t) v es) (fset x av f) := by
  refine FR.rec (motive := fun es f _ => FR b tl (putL x hsh (.str x t) v es) (fset x av f)) (.cons _ _ _ _ _ _ _ hv .nil) (fun h y u w aw es f hw r ih => ?_) h
  · unfold putL fset
    show FR b tl (if (Value.str y u).isStr x then _ else _) _
    rw [isStr_key]
    split
    · exact .cons _ _ _ _ _ _ _ hv r
    · exact .cons _ _ _ _ _ _ _ hw ih
theorem FR.length {b : Heap} {tl : Led} {es : List DictEntry} {f : List (Str × AV)} (h : FR b tl es f) : es.length = f.length :=
  FR.rec (motive := fun es f _ => es.length = f.length) rfl (fun _ _ _ _ _ _ _ _ _ e => congrArg (· + 1) e) h
section
variable {W : Wd} {Γ : Fc} {n : Nat} {m : Loc} {S : Store} {X : Int → Prop}
noncomputable def okGet (K : Frag) (C : Addr) (x : Str) : Bool := plainGet K C x && hasDictIn K C && (match findIn K (.ref C) x with | some attr => noGet K attr | none => false)
noncomputable def okSet (K : Frag) (C : Addr) (x : Str) : Bool := findIn K (.ref C) "__setattr__" == some (some (.builtin "object.__setattr__")) && plainOver K C && takerIn K C x == some none && hasDictIn K C
noncomputable def okMeth (K : Frag) (C : Addr) (x : Str) (f : Addr) : Bool := plainGet K C x && findIn K (.ref C) x == some (some (.ref f)) && isFn K (.ref f) && keepIn K (.ref f)
inductive KAtt (W : Wd) (x : Str) (Q : AV → Store → Prop) (v : AV) (S : Store) : Prop
  | mk (a C d : Addr) (f : List (Str × AV)) (w : AV) (e : v = .ref a) (hi : S a = some (.inst C d)) (hd : S d = some (.flds f)) (hf : fget x f = some w) (hg : okGet W.K C x = true) (q : Q w S)
inductive KSat (W : Wd) (x : Str) (w : AV) (P : Store → Prop) (v : AV) (S : Store) : Prop
  | mk (a C d : Addr) (f : List (Str × AV)) (S3 : Store) (e : v = .ref a) (hi : S a = some (.inst C d)) (hd : S d = some (.flds f)) (hg : okSet W.K C x = true) (hl : f.length ≤ 900) (e3 : S3 = upd S d (.flds (fset x w f))) (q : P S3)
inductive KRecv (W : Wd) (x : Str) (P : Addr → Addr → Store → Prop) (v : AV) (S : Store) : Prop
  | mk (a C d : Addr) (f : List (Str × AV)) (g : Addr) (e : v = .ref a) (hi : S a = some (.inst C d)) (hd : S d = some (.flds f)) (hf : fget x f = none) (hg : okMeth W.K C x g = true) (q : P a g S)
noncomputable abbrev KSas (W : Wd) (Γ : Fc) (n : Nat) (o : Expr) (x : Str) (m : Loc) (Q : Fl → Loc → Store → Prop) (X : Int → Prop) : AV → Store → Prop := fun w S1 => WE W Γ n o m S1 (KSat W x w (Q .nxt m)) X
theorem e_attr {o : Expr} {x : Str} {pos : Pos} {Q : AV → Store → Prop}
    (h : WE W Γ n o m S (KAtt W x Q) X)
    (he : ∀ env, eval (.Attribute o x pos) env = (do
      let ov ← eval o env
      standAt pos.atName
      let r ← holding [ov] (getAttr ov x true)
      letTemporaryGo o ov r
      pure r) := by intro _; kernel_rfl) (hg : ∀ ov r, letTemporaryGo o ov r = pure () := by intros; kernel_rfl) : WE W Γ n (.Attribute o x pos) m S Q X := by
  intro hW hΓ B hd tl s hB hs
  rw [he]
  refine wpAny_bind (wpAny_mono (h hW hΓ B hd tl s hB hs) ?_ fun _ _ e => e)
  rintro v s1 ⟨_, S1, tl1, x1, ⟨mc, cs, st1⟩, r1, a, C, d, f, w, rfl, ha, hd', hf, hg', q⟩
  apply VR.on_ref r1
  have key : ∀ r, letTemporaryGo o (.ref a) r = pure () := fun r => hg _ r
  simp only [key]
  refine wpAny_bind (wpAny_standAt (wpAny_bind (wpAny_holding ?_)))
  obtain ⟨oa, ma, ra⟩ := st1.obj ha
  obtain ⟨od, md, rd⟩ := st1.obj hd'
  cases ra
  cases rd with
  | flds es k _ hfr =>
    obtain ⟨w', hw, hr⟩ := hfr.get hf
    unfold okGet at hg'
    simp only [Bool.and_eq_true] at hg'
    obtain ⟨⟨g1, g2⟩, g3⟩ := hg'
    split at g3
    · rename_i attr e3
      exact get_own st1.fr (hΓ.inK hW) (InstAt.of_news st1.nw (List.mem_append_right _ ma) (List.mem_append_right _ md)) g1 g2 e3 g3 hw hr.handed (wpAny_bind (wpAny_pure (wpAny_pure ⟨w, S1, tl1, x1, ⟨mc, cs, st1.same _⟩, hr, q⟩)))
    · cases g3
theorem s_attr {o e : Expr} {x : Str} {p' pos : Pos} {Q : Fl → Loc → Store → Prop}
    (h : WE W Γ n e m S (KSas W Γ n o x m Q X) X)
    (hs : swapsWith e (some (.Attribute o x p')) pos.line Γ.ev = pure false := by kernel_rfl) : W1 W Γ n (.Assign [.Attribute o x p'] e pos) m S Q X := by
  intro hW hΓ B hd tl s hB hst
  refine plainObj_wpAny_Assign_Attribute (wpAny_mono (h hW hΓ B hd tl s hB hst) ?_ fun _ _ e => e.toS) hs
  rintro v s1 ⟨w, S1, tl1, x1, st1, r1, q1⟩
  refine wpAny_mono (q1 hW hΓ B hd tl1 s1 hB st1) ?_ fun _ _ e => e.toS
  rintro v2 s2 ⟨_, S2, tl2, x2, ⟨mc, cs, st2⟩, r2, a, C, d, f, _, rfl, ha, hd', hg, hlen, rfl, q⟩
  apply VR.on_ref r2
  obtain ⟨oa, ma, ra⟩ := st2.obj ha
  obtain ⟨od, md, rd⟩ := st2.obj hd'
  cases ra
  cases rd with
  | flds es k _ hfr =>
    unfold okSet at hg
    simp only [Bool.and_eq_true, beq_iff_eq] at hg
    obtain ⟨⟨⟨g1, g2⟩, g3⟩, g4⟩ := hg
    refine set_dict st2.fr (hΓ.inK hW) st2.nw (InstAt.of_news st2.nw (List.mem_append_right _ ma) (List.mem_append_right _ md)) rfl g1 g2 g3 g4 (hfr.isSome x) rfl (st2.updOf md) ?_ fun h' F' N' => ?_
    · have h1 := (hfr.put (x := x) (hsh := PyData.keyHash W.w.params x) (t := s2.toks + 1) (r1.ext x2)).length
      rw [h1]
      have h2 : ∀ f : List (Str × AV), (fset x w f).length ≤ f.length + 1 := by
        intro f
        induction f with
        | nil => simp [fset]
        | cons p r ih => unfold fset; obtain ⟨y, u⟩ := p; dsimp only; split <;> simp only [List.length_cons] <;> lia
      have := h2 f
      lia
    · exact ⟨.nxt, m, _, tl2, x1.trans x2, ⟨mc, _, st2.put md F' N' (.flds _ _ _ (hfr.put (r1.ext x2)))⟩, .nxt, q⟩
theorem meth_recv {B : Around} {hd tl : Led} {a C d : Addr} {f : List (Str × AV)} {x : Str} {g : Addr} {pl : Sem Bool} {Q : Value × List Value → Shared → Prop} {E : Value → Shared → Prop} {s : Shared} (hW : W.Ok) (hΓ : Γ.Ok W) (hs : St W Γ hd tl m S s)
    (ha : S a = some (.inst C d)) (hd' : S d = some (.flds f)) (hf : fget x f = none) (hg : okMeth W.K C x g = true) (h : W.K.In s.heap → keepIn W.K (.ref g) = true → Q (.ref g, [.ref a]) s) : wpAny (model W.prog W.w) B (getMethod (.ref a) x pl) Q E s := by
  obtain ⟨mc, cs, st⟩ := hs
  obtain ⟨oa, ma, ra⟩ := st.obj ha
  obtain ⟨od, md, rd⟩ := st.obj hd'
  cases ra
  cases rd with
  | flds es k _ hfr =>
    unfold okMeth at hg
    simp only [Bool.and_eq_true, beq_iff_eq] at hg
    obtain ⟨⟨⟨g1, g2⟩, g3⟩, g4⟩ := hg
    exact method_inst st.fr (hΓ.inK hW) (InstAt.of_news st.nw (List.mem_append_right _ ma) (List.mem_append_right _ md)) g1 g2 g3 (hfr.miss hf) (h (st.inK hW hΓ) g4)
theorem name_K {B : Around} {x : Str} {pos : Pos} {v : Value} {hd tl : Led} {Q : Value → Shared → Prop} {E : Value → Shared → Prop} {s : Shared} (hW : W.Ok) (hΓ : Γ.Ok W) (hs : St W Γ hd tl m S s) (e : nsIn W.K mainGlobals x = some (some v)) (q : Q v s)
    (hk : Γ.ev.scope.kind = .function) (hx : Γ.ev.kindOf x = some .globalImplicit) (hd' : (x == ("__debug__" : Str)) = false) : wpAny (model W.prog W.w) B (eval (.Name x pos) Γ.ev) Q E s := by
  obtain ⟨mc, cs, h⟩ := hs
  exact nameG_K h.fr (hΓ.inK hW) (topRead_of (hΓ.top hW)) e q Γ.ev_globals hk hx hd'
theorem name_B {B : Around} {x : Str} {pos : Pos} {v : Value} {hd tl : Led} {Q : Value → Shared → Prop} {E : Value → Shared → Prop} {s : Shared} (hW : W.Ok) (hΓ : Γ.Ok W) (hs : St W Γ hd tl m S s) (e : nsIn W.K mainGlobals x = some none) (hv : bootBuiltins x = some v) (hn : x ≠ "__name__") (q : Q v s)
    (hk : Γ.ev.scope.kind = .function) (hx : Γ.ev.kindOf x = some .globalImplicit) (hd' : (x == ("__debug__" : Str)) = false) : wpAny (model W.prog W.w) B (eval (.Name x pos) Γ.ev) Q E s := by
  obtain ⟨mc, cs, h⟩ := hs
  have T := topRead_of (hΓ.top hW)
  unfold Fc.ev at *
  cases hb : Γ.blk with
  | none => rw [hb] at hk hx; exact nameX_B h.fr (hΓ.inK hW) T e hv hn q hk hx hd'
  | some b =>
    rw [hb] at hk hx
    exact Name_function_global hk hx (loadGlobal_builtin (env := compEnvC b.scope b.cl b.C Γ.env) (T.g.keeps h.fr.keep) (mg_none_of (hΓ.inK hW) T.g e) (T.b.keeps h.fr.keep) ((T.builtins x hn).trans hv) q) hd'
theorem e_glob {x : Str} {pos : Pos} {v : Value} {av : AV} {Q : AV → Store → Prop} (e : nsIn W.K mainGlobals x = some (some v)) (hv : VR W.b [] v av) (q : Q av S)
    (hk : Γ.ev.scope.kind = .function := by kernel_rfl) (hx : Γ.ev.kindOf x = some .globalImplicit := by kernel_rfl) (hd : (x == ("__debug__" : Str)) = false := by kernel_rfl) : WE W Γ n (.Name x pos) m S Q X := fun hW hΓ B hd' tl s hB hs =>
  name_K hW hΓ hs e (.now hs (hv.ext (by intro _ h; cases h)) q) hk hx hd
theorem e_call0 {x : Str} {npos pos : Pos} {g : Addr} {Q : AV → Store → Prop} (e : nsIn W.K mainGlobals x = some (some (.ref g))) (hk : keepIn W.K (.ref g) = true) (q : WF W Γ n (.ref g) [] m S Q X)
    (hk' : Γ.ev.scope.kind = .function := by kernel_rfl) (hx : Γ.ev.kindOf x = some .globalImplicit := by kernel_rfl) (hd : (x == ("__debug__" : Str)) = false := by kernel_rfl)
    (he : ∀ env, eval (.Call (.Name x npos) [] [] pos) env = (do callWith pos (← eval (.Name x npos) env) [] (backTo pos (starEach [] env)) (backToKw pos (keywordEach [] env))) := by intro _; kernel_rfl) : WE W Γ n (.Call (.Name x npos) [] [] pos) m S Q X := by
  intro hW hΓ B hd' tl s hB hs
  have hK : W.K.In s.heap := by obtain ⟨mc, cs, c2⟩ := hs; exact c2.inK hW hΓ
  refine Call_ (name_K hW hΓ hs e ?_ hk' hx hd) (he _)
  exact callWith_K0 hK hk (q hW hΓ B hd' tl s [] hB hs .nil)
theorem e_call {x : Str} {npos pos : Pos} {a : Expr} {rest : List Expr} {g : Addr} {Q : AV → Store → Prop} (e : nsIn W.K mainGlobals x = some (some (.ref g))) (hk : keepIn W.K (.ref g) = true)
    (q : WEs W Γ n pos (a :: rest) m S (fun as S1 => WF W Γ n (.ref g) as m S1 Q X) X)
    (hk' : Γ.ev.scope.kind = .function := by kernel_rfl) (hx : Γ.ev.kindOf x = some .globalImplicit := by kernel_rfl) (hd : (x == ("__debug__" : Str)) = false := by kernel_rfl)
    (he : ∀ env, eval (.Call (.Name x npos) (a :: rest) [] pos) env = (do callWith pos (← eval (.Name x npos) env) [] (backTo pos (starEach (a :: rest) env)) (backToKw pos (keywordEach [] env))) := by intro _; kernel_rfl)
    (h1 : ∀ env, starEach (a :: rest) env = (false, eval a env) :: starEach rest env := by intro _; kernel_rfl) (h2 : ∀ env, (backTo pos (starEach rest env)).any (·.1) = false := by intro _; kernel_rfl) : WE W Γ n (.Call (.Name x npos) (a :: rest) [] pos) m S Q X := by
  intro hW hΓ B hd' tl s hB hs
  have hK : W.K.In s.heap := by obtain ⟨mc, cs, c2⟩ := hs; exact c2.inK hW hΓ
  refine Call_ (name_K hW hΓ hs e ?_ hk' hx hd) (he _)
  refine callWith_K (h₀ := s.heap) hK hk (wpAny_mono (q hW hΓ B hd' tl s hB hs) ?_ fun _ _ e => e) (h1 _) (h2 _)
  rintro vs s2 ⟨as, S2, tl2, x2, st2, r2, q2⟩
  have hK2 : W.K.In s2.heap := by obtain ⟨mc, cs, c2⟩ := st2; exact c2.inK hW hΓ
  exact ⟨hK2, wpAny_mono (q2 hW hΓ B hd' tl2 s2 vs hB st2 r2) (fun _ _ p => p.ext x2) fun _ _ e => e⟩
theorem e_bi {x : Str} {npos pos : Pos} {a : Expr} {rest : List Expr} {g : String} {Q : AV → Store → Prop} (e : nsIn W.K mainGlobals x = some none) (hv : bootBuiltins x = some (.builtin g)) (hn : x ≠ "__name__")
    (q : WEs W Γ n pos (a :: rest) m S (fun as S1 => WF W Γ n (.builtin g) as m S1 Q X) X)
    (hk' : Γ.ev.scope.kind = .function := by kernel_rfl) (hx : Γ.ev.kindOf x = some .globalImplicit := by kernel_rfl) (hd : (x == ("__debug__" : Str)) = false := by kernel_rfl)
    (he : ∀ env, eval (.Call (.Name x npos) (a :: rest) [] pos) env = (do callWith pos (← eval (.Name x npos) env) [] (backTo pos (starEach (a :: rest) env)) (backToKw pos (keywordEach [] env))) := by intro _; kernel_rfl)
    (h1 : ∀ env, starEach (a :: rest) env = (false, eval a env) :: starEach rest env := by intro _; kernel_rfl) (h2 : ∀ env, (backTo pos (starEach rest env)).any (·.1) = false := by intro _; kernel_rfl) : WE W Γ n (.Call (.Name x npos) (a :: rest) [] pos) m S Q X := by
  intro hW hΓ B hd' tl s hB hs
  refine Call_ (name_B hW hΓ hs e hv hn ?_ hk' hx hd) (he _)
  refine callWith_builtin1 (wpAny_mono (q hW hΓ B hd' tl s hB hs) ?_ fun _ _ e => e) (h1 _) (h2 _)
  rintro vs s2 ⟨as, S2, tl2, x2, st2, r2, q2⟩
  exact wpAny_mono (q2 hW hΓ B hd' tl2 s2 vs hB st2 r2) (fun _ _ p => p.ext x2) fun _ _ e => e
theorem e_ty {x : Str} {npos pos : Pos} {a : Expr} {rest : List Expr} {g : String} {Q : AV → Store → Prop} (e : nsIn W.K mainGlobals x = some none) (hv : bootBuiltins x = some (.type g)) (hn : x ≠ "__name__")
    (q : WEs W Γ n pos (a :: rest) m S (fun as S1 => WF W Γ n (.type g) as m S1 Q X) X)
    (hk' : Γ.ev.scope.kind = .function := by kernel_rfl) (hx : Γ.ev.kindOf x = some .globalImplicit := by kernel_rfl) (hd : (x == ("__debug__" : Str)) = false := by kernel_rfl)
    (he : ∀ env, eval (.Call (.Name x npos) (a :: rest) [] pos) env = (do callWith pos (← eval (.Name x npos) env) [] (backTo pos (starEach (a :: rest) env)) (backToKw pos (keywordEach [] env))) := by intro _; kernel_rfl)
    (h1 : ∀ env, starEach (a :: rest) env = (false, eval a env) :: starEach rest env := by intro _; kernel_rfl) (h2 : ∀ env, (backTo pos (starEach rest env)).any (·.1) = false := by intro _; kernel_rfl) : WE W Γ n (.Call (.Name x npos) (a :: rest) [] pos) m S Q X := by
  intro hW hΓ B hd' tl s hB hs
  refine Call_ (name_B hW hΓ hs e hv hn ?_ hk' hx hd) (he _)
  refine PyProof.Rows.callWith_type1 (wpAny_mono (q hW hΓ B hd' tl s hB hs) ?_ fun _ _ e => e) (h1 _) (h2 _)
  rintro vs s2 ⟨as, S2, tl2, x2, st2, r2, q2⟩
  exact wpAny_mono (q2 hW hΓ B hd' tl2 s2 vs hB st2 r2) (fun _ _ p => p.ext x2) fun _ _ e => e
theorem AOk.tc {B : Around} {C : Addr} {pos : List Value} (h : AOk Γ (n + 1) B) : AOk Γ n (B.under (.builtin "type.__call__" ⟨.ref C :: pos, []⟩)) := by
  refine ⟨?_, h.handled, ?_, ?_⟩
  · exact (show pushEnvs (Code.builtin "type.__call__" ⟨.ref C :: pos, []⟩).envs B.frames = some (Γ.env :: Γ.outer) from by rw [h.frames]; rfl)
  · have := h.depth; show B.depth + 1 + n < 990; lia
  · have := h.units; show B.units + 1 + 20 * n + 100 < cLine; lia
theorem make {C fI : Addr} {avs : List AV} {Q : AV → Store → Prop} (hm : makesIn W.K C = true) (hi : findIn W.K (.ref C) "__init__" = some (some (.ref fI))) (hf : isFn W.K (.ref fI) = true)
    (h : ∀ x d, S x = none → S d = none → x ≠ d → WK W Γ n (.ref fI) (.ref x :: avs) m (upd (upd S d (.flds [])) x (.inst C d)) (fun v S' => v = .none ∧ Q (.ref x) S') X) : WF W Γ (n + 1) (.ref C) avs m S Q X := by
  intro hW hΓ B hd tl s vs hB hs hv
  obtain ⟨mc, cs, st⟩ := hs
  refine call_cls st.fr (hΓ.inK hW) st.nw hm hi hf fun x dx h' F' N' l1 l2 => ?_
  obtain ⟨st1, hn1⟩ := st.new (tk := s.toks) F' (News.sub N' fun p hp => .tail _ hp) l1 (.flds [] 0 _ .nil)
  have l3 : ∀ p ∈ hd ++ tl ++ (dx, dictOf [] 0) :: cs, p.1 < x := fun p hp => by
    rcases List.mem_cons.mp (sub_cs p hp) with rfl | hp
    · exact l2
    · exact Nat.lt_trans (l1 p hp) l2
  obtain ⟨st2, hn2⟩ := st1.new (tk := s.toks) (l := x) (o := instObj C dx) F' (News.sub N' fun p hp => by
    rcases List.mem_cons.mp hp with rfl | hp
    · exact .head _
    · exact .tail _ (sub_cs p hp)) l3 (.inst _ _)
  have hne : x ≠ dx := Nat.ne_of_gt l2
  rw [upd_ne hne] at hn2
  refine h x dx hn2 hn1 hne hW hΓ _ hd tl _ (.ref x :: vs) _ hB.tc ⟨mc, _, st2⟩ (.cons _ _ _ _ (.ref _) hv) ?_ ?_
  · rintro v s' ⟨_, S', tl', x', st', r', rfl, q⟩
    cases r'
    exact ⟨rfl, .ref x, S', tl', x', st', .ref _, q⟩
  · exact fun e s' hx => hx
end
end
section
open PySem PySem.W PySem.Calls PyProof.Rows PySem.Builtin PySem.Builtin.ObjectAttr
noncomputable abbrev excObj (C t : Addr) (d : Option Addr) : Obj := { cls := .ref C, dict := d, data := .fields #[.ref t, .none, .none, .none, .bool false, .none] }
noncomputable abbrev bmE : List Value := [.type "Exception", .type "BaseException", .type "object"]
section
variable {prog : Program} {w : World} {A : Around} {E : Value → Shared → Prop} {h : Heap} {g : Array GenState} {d : Drawn} {t : Nat} {os : OsState}
variable {nm q : Str} {C N x : Addr} {bs bm : List Value} {sn : List Str} {sub : List Value} {ab : Bool} {col : Option Bool} {dd : Option Addr} {k0 k1 k2 k3 k5 : Option Value} {B newId sa owner : String}
  {mN mA : Str → Option Value} {name : Str} {v : Value}
theorem store_new {Q : Unit → Shared → Prop} {o : Obj} (SF : StoreFacts B bm sa owner)
    (hC : h.get? C = some (excClassObj nm q C N bs bm true sn sub ab col dd k0 k1 k2 k3 k5 newId)) (hn : h.Ns N mN) (hns : mN "__setattr__" = none) (hna : mN name = none)
    (hB : typeLookup (.type B) name = pure none) (hx : h.get? x = some o) (hc : o.cls = .ref C) (hnc : ∀ c, o.data ≠ .cls c) (hdn : o.dict = none)
    (hq : ∀ h' tk', h'.get? x = some { o with dict := some h.objs.size } → h'.Ns1 h.objs.size (fun y => if y = name then some v else none) →
      (∀ b ob, b ≠ x → h.get? b = some ob → h'.get? b = some ob) → Q () ⟨h', g, d, tk', os⟩) :
    wpAny (model prog w) A (setAttr (.ref x) name v) Q E ⟨h, g, d, t, os⟩ := by
  have f3 := SF.slot.bind (.ref x)
  unfold setAttr callSpecial? specialOf
  repeat (any_goals (first | assumption | (with_reducible refine wpAny_loadPart_at hx ?_; rw [hc]) | (with_reducible refine wpAny_typeLookup_exc hC hn SF.mro SF.slot.lookup ?_; rw [hns]) | wp_step))
  refine codeAny_call_builtin SF.slot.plain SF.entry (wpAny_check_sa SF hC hx hc ?_)
  have hpass := SF.passes (.ref x)
  unfold Builtin.«object.__setattr__»
  repeat (first | rw [refuse_eq] | (rw [refuseLoop_ref, hpass]) | (with_reducible refine wpAny_loadPart_at hx ?_; rw [hc]) | with_reducible refine wpAny_mroOf_exc hC ?_ | (with_reducible refine wpAny_typeLookup_exc hC hn SF.mro hB ?_; rw [hna]) | wp_step)
  rw [hdn, if_neg (by simp [typeHasDict])]
  split
  · rename_i hcd
    cases hcd
  split
  · rename_i c hcd
    exact absurd hcd (hnc c)
  · have hx₁ : (h.push { cls := .type "dict", data := .dict #[] }).get? x = some o := Heap.get?_push_of_some _ hx
    have hxs : x ≠ h.objs.size := Nat.ne_of_lt (Heap.lt_size hx)
    refine wpAny_bind (wpAny_alloc' ?_)
    refine wpAny_bind (wpAny_update' hx₁ ?_)
    refine wpAny_pure ?_
    have hgd : ((h.push { cls := .type "dict", data := .dict #[] }).update x fun o => { cls := o.cls, dict := some h.objs.size, data := o.data, slots := o.slots }).get? h.objs.size
        = some { cls := .type "dict", data := .dict #[] } :=
      (Heap.get?_update_ne _ _ _ _ hxs.symm).trans (Heap.get?_push_at rfl rfl)
    have hnd : ((h.push { cls := .type "dict", data := .dict #[] }).update x fun o => { cls := o.cls, dict := some h.objs.size, data := o.data, slots := o.slots }).Ns h.objs.size (fun _ => none) :=
      ⟨_, #[], _, hgd, rfl, fun e he => absurd he (by simp), fun _ => rfl⟩
    show wpAny _ _ (storeInDict h.objs.size (.str name _) name v) _ _ _
    unfold storeInDict newKeyGuard
    refine wpAny_bind (wpAny_pure (wpAny_bind (wpAny_nsSet1 (Heap.Ns1.of_empty hnd) fun h' hn' hs => ?_)))
    obtain ⟨oD, esD, epD, hoD, hdD, hcD⟩ := hn'.count (Within.cons name v Within.nil)
    refine wpAny_bind (wpAny_lookBehind hoD (by rw [hdD]; exact pastItsLine_dict (Nat.le_trans hcD (by rw [List.length_cons, List.length_nil, sizeLine_eq]; lia))) ?_)
    wp_walk
    have hx' : h'.get? x = some { cls := o.cls, dict := some h.objs.size, data := o.data, slots := o.slots } := by
      refine (hs.2 x hxs).trans (Heap.get?_update_self _ hx₁ ?_)
      have hfr := (Heap.get?_some_iff.mp hx).2
      obtain ⟨oc, od, odt, osl⟩ := o
      cases odt <;> first | rfl | exact hfr
    repeat (any_goals (first | assumption | wp_step))
    exact hq h' _ hx' hn' fun b ob hbx hb => (hs.2 b (Nat.ne_of_lt (Heap.lt_size hb))).trans ((Heap.get?_update_ne _ _ _ _ hbx).trans (Heap.get?_push_of_some _ hb))
theorem raise_made {env : Env} {s : Shared} {y : Sem Value} {Q : Flow → Shared → Prop} {hdct : Bool} (hbase : bm.contains (.type "BaseException") = true) (hh : A.handled = none)
    (hx : wpAny (model prog w) A y (fun v s₁ => ∃ e t dx, v = .ref e ∧ s₁.heap.get? C = some (excClassObj nm q C N bs bm hdct sn sub ab col dd k0 k1 k2 k3 k5 newId) ∧
      s₁.heap.get? e = some (excObj C t dx) ∧ E (.ref e) s₁) E s) :
    wpAny (model prog w) A (raiseStmt env (some y) none) Q E s := by
  have hcB : (Value.ref C :: bm).contains (.type "BaseException") = true := by rw [List.contains_cons, hbase, Bool.or_true]
  unfold raiseStmt
  refine wpAny_bind (wpAny_mono hx (fun v s₁ h₁ => ?_) fun _ _ x => x)
  obtain ⟨e, t, dx, rfl, hC, he, hE⟩ := h₁
  obtain ⟨hp, g, d, tk, os⟩ := s₁
  repeat (first | with_reducible refine wpAny_loadPart_at he ?_ | with_reducible refine wpAny_loadPart_at hC ?_ | (with_reducible refine wpAny_isSubtype_exc hC ?_; rw [hcB]) | wp_step)
  exact wpAny_raiseNew_none hh hE
end
inductive BadC (K : Frag) (bad : Addr) (P : Addr → Prop) : Prop
  | mk (nm q : Str) (N : Addr) (bs : List Value) (sn : List Str) (sub : List Value) (ab : Bool) (col : Option Bool) (dd : Option Addr) (k0 k1 k2 k3 k5 : Option Value) (hC : K.lookup bad = some (excClassObj nm q bad N bs bmE true sn sub ab col dd k0 k1 k2 k3 k5 "Exception.__new__")) (hN : nsOkIn K N = true) (hp : P N)
inductive BadB (body : List Stmt) : Prop
  | mk (p1 p2 p3 p4 q1 q2 q3 q4 : Pos) (e : body = [.Assign [.Attribute (.Name "self" p1) "line" p2] (.Name "line" p3) p4, .Assign [.Attribute (.Name "self" q1) "word" q2] (.Name "word" q3) q4])
structure BadOk (W : Wd) (fI : Addr) (cd : Value) (params : Arguments) (body : List Stmt) (scope : Scope) (qual : Str) : Prop where
  cls : BadC W.K W.bad fun N => nsIn W.K N "__init__" = some (some (.ref fI)) ∧ nsIn W.K N "__setattr__" = some none ∧ nsIn W.K N "line" = some none ∧ nsIn W.K N "word" = some none
  fn : FnAt W fI qual params body scope cd
  names : NamesOk params scope [("self" : Str), "line", "word"]
  args : params.args.map (·.arg) = [("self" : Str), "line", "word"]
  body : BadB body
theorem ns_some_of {K : Frag} {h : Heap} {N : Addr} {mg : Str → Option Value} {n : Str} {v : Value} (X : K.In h) (G : h.Ns N mg) (e : nsIn K N n = some (some v)) : mg n = some v := by
  obtain ⟨o, es, ep, ho, hd, _, hf⟩ := G
  unfold nsIn at e
  split at e
  · rename_i c d es' n' sl q
    have := X _ _ q
    rw [ho] at this
    cases this
    cases hd
    split at e
    · rename_i en he
      cases e
      rw [← hf]
      unfold nsFind findBy
      rw [← Array.find?_toList, he]
      rfl
    · split at e <;> cases e
  · cases e
theorem ns_at {h h' : Heap} {a : Addr} {mm : Str → Option Value} (x : h.Ns a mm) (k : ∀ o, h.get? a = some o → h'.get? a = some o) : h'.Ns a mm := let ⟨o, es, ep, e, r⟩ := x; ⟨o, es, ep, k o e, r⟩
theorem tl_line : typeLookup (.type "Exception") "line" = pure none := by rw [typeLookup_type, builtinLookup_eq_fast]; kernel_rfl
theorem tl_word : typeLookup (.type "Exception") "word" = pure none := by rw [typeLookup_type, builtinLookup_eq_fast]; kernel_rfl
section
variable {W : Wd} {Γ : Fc} {m : Loc} {S : Store}
theorem call_bad {fI : Addr} {cd : Value} {params : Arguments} {body : List Stmt} {scope : Scope} {qual : Str} (hb : BadOk W fI cd params body scope qual) (hW : W.Ok) (hΓ : Γ.Ok W) {B : Around} {hd tl : Led} {s : Shared} {mc : Str → Option Value} {cs : Led}
    (hB : AOk Γ 2 B) (st : StC W Γ hd tl m S mc cs s) {line : Int} {t1 : Tok} {v2 : Value} {Q : Value → Shared → Prop} {E : Value → Shared → Prop}
    (k : ∀ e t d od h' tk, Fr Γ.g Γ.L h' mc → h'.get? e = some (excObj W.bad t (some d)) → h'.get? d = some od → LineOf od line → d ≠ e → d ≠ Γ.L → e ≠ Γ.L → Γ.g.get? d = none → Γ.g.get? e = none → Q (.ref e) { s with heap := h', toks := tk }) :
    wpAny (model W.prog W.w) B (call (.ref W.bad) [.int line t1, v2]) Q E s := by
  obtain ⟨nm, q, N, bs, sn, sub, ab, col, dd, k0, k1, k2, k3, k5, hC, hNs, hi, hsa, hl, hw⟩ := hb.cls
  obtain ⟨⟨fo, name, dV, kV, doc, pm, an, ct, hfo, hfc, hfd, hbind⟩, hcode⟩ := hb.fn
  obtain ⟨p1, p2, p3, p4, q1, q2, q3, q4, rfl⟩ := hb.body
  have X := st.inK hW hΓ
  have hbse := st.base hΓ
  obtain ⟨F, NN⟩ := And.intro st.fr st.nw
  obtain ⟨h, g, d, t, os⟩ := s
  dsimp only at X hbse F NN k ⊢
  have G0 : h.Ns N (h.nsMap N) := .of_isNs (isNs_of_in X hNs)
  refine wpAny_call_exc_init (mN := h.nsMap N) PySem.F.excBase_Exception (X _ _ hC) G0 (ns_some_of X G0 hi) (hbse _ _ hfo) hfc (fun h' e M => ?_)
  obtain ⟨tt, he, _, _⟩ := M.there
  have FN1 : Fr Γ.g Γ.L h' mc := F.keeps M.keeps
  have heL : e ≠ Γ.L := fun q => by have := F.ns.lt; rw [← q] at this; obtain ⟨o, _, _, ho, _⟩ := F.ns; rw [← q, M.new] at ho; cases ho
  have heg : Γ.g.get? e = none := by
    cases q : Γ.g.get? e with
    | none => rfl
    | some o => have := F.keep e o q; rw [M.new] at this; cases this
  have N1 : News Γ.g Γ.L h' [(e, excObj W.bad tt none)] := fun p hp => by
    rw [List.mem_singleton] at hp; subst hp; exact ⟨he, heL, heg⟩
  have hBu : AOk Γ 1 (B.under (.builtin "type.__call__" ⟨.ref W.bad :: [.int line t1, v2], []⟩)) := hB.tc
  have bx : W.b.StaysIn h' := fun b o e => M.keeps b o (hbse b o e)
  refine wpAny_call (callX_plain (env := Γ.env) (outer := Γ.outer) (cl := []) (fo := fo) hΓ.below FN1 N1 (hΓ.top hW).nolimit hBu.frames rfl hΓ.kind (bx _ _ hfo) hfd
    (hcode.keeps bx) (by have := hBu.depth; show Around.depth _ < 1000; lia) (hbind _ [.ref e, .int line t1, v2] (by have := congrArg List.length hb.args; simp only [List.length_map] at this; rw [this]; rfl)) (fun y hy => ?_) (fun g' L' h₁ FG F' N' B' st' l' => ?_) hb.names.nocell hb.names.co hb.names.gen hb.names.kind)
  · refine hb.names.loc y.1 ?_
    have := List.of_mem_zip (a := y.1) (b := y.2) hy
    rw [hb.args] at this
    exact this.1
  · rw [hb.args] at F' ⊢
    have X0 : W.K.In g' := ((hΓ.inK hW).keeps st')
    have X1 : W.K.In h₁ := X0.keeps F'.keep
    have G1 : h₁.Ns N (h₁.nsMap N) := .of_isNs (isNs_of_in X1 hNs)
    have he1 : h₁.get? e = some (excObj W.bad tt none) := (N' _ (.head _)).1
    have heg' : g'.get? e = none := (N' _ (.head _)).2.2
    have heL' : e ≠ L' := (N' _ (.head _)).2.1
    have lS : (envX qual scope L' fI cd []).kindOf "self" = some .local := hb.names.loc _ (.head _)
    have lL : (envX qual scope L' fI cd []).kindOf "line" = some .local := hb.names.loc _ (.tail _ (.head _))
    have lW : (envX qual scope L' fI cd []).kindOf "word" = some .local := hb.names.loc _ (.tail _ (.tail _ (.head _)))
    refine wpAny_execs_cons (plainObj_wpAny_Assign_Attribute (nameX_L F' (v := .int line t1) rfl (nameX_L F' (v := .ref e) rfl ?_ hb.names.kind lS) hb.names.kind lL))
    refine store_new PySem.F.store_Exception (X1 _ _ hC) G1 (nsMap_none_of_in X1 hNs hsa) (nsMap_none_of_in X1 hNs hl) tl_line he1 rfl (fun c hc => by cases hc) rfl fun h₂ tk₂ e2 n2 same2 => ?_
    have F2 : Fr g' L' h₂ _ := ⟨ns_at F'.ns (fun o ho => same2 L' o heL'.symm ho), fun b o ho => same2 b o (fun q => by rw [q, heg'] at ho; cases ho) (F'.keep b o ho), F'.above⟩
    have hdx : h₁.objs.size ≠ L' := Nat.ne_of_gt F'.ns.lt
    have hgd : g'.get? h₁.objs.size = none := by
      cases q : g'.get? h₁.objs.size with
      | none => rfl
      | some o => exact absurd (Heap.lt_size (F'.keep _ o q)) (Nat.lt_irrefl _)
    have hde : h₁.objs.size ≠ e := Nat.ne_of_gt (Heap.lt_size he1)
    have X2 : W.K.In h₂ := X0.keeps F2.keep
    have G2 : h₂.Ns N (h₂.nsMap N) := .of_isNs (isNs_of_in X2 hNs)
    have I2 : h₂.Inst e W.bad (fun y => if y = "line" then some (.int line t1) else none) := ⟨_, e2, rfl, (fun c hc => by cases hc), .inr ⟨_, rfl, hde, n2⟩⟩
    refine wpAny_execs_cons (plainObj_wpAny_Assign_Attribute (nameX_L F2 (v := v2) rfl (nameX_L F2 (v := .ref e) rfl ?_ hb.names.kind lS) hb.names.kind lW))
    refine store_attr PySem.F.store_Exception (X2 _ _ hC) G2 (nsMap_none_of_in X2 hNs hsa) (nsMap_none_of_in X2 hNs hw) tl_word (fun q => by
      have := X1 _ _ hC
      rw [← q, he1] at this
      cases this) I2 (fun h₃ tk₃ I3 same3 obj3 => ?_) (ns := ["line"]) (fun y hy => ?_)
    · obtain ⟨o₁, hx3, c3, d3, sl3, dd3⟩ := obj3 _ e2
      obtain ⟨o', hx3', c3', nc3, dI⟩ := I3
      rw [hx3] at hx3'
      cases hx3'
      have hdd := dd3 h₁.objs.size rfl
      rcases dI with ⟨hno, _⟩ | ⟨dx, hdx', hne', ⟨od, es, ep, ho, hod, hsk, _, hf⟩⟩
      · rw [hdd] at hno; cases hno
      · rw [hdd] at hdx'
        cases hdx'
        have same3' : ∀ b o, b ≠ e → b ≠ h₁.objs.size → h₂.get? b = some o → h₃.get? b = some o := fun b o n1 n2 hbo => same3 b o n1 (fun o₀ dx e1 e2' => by
          rw [e2] at e1; cases e1; cases e2'; exact n2) hbo
        have F3 : Fr g' L' h₃ _ := ⟨ns_at F2.ns (fun o ho => same3' L' o heL'.symm hdx.symm ho), fun b o ho => same3' b o (fun q => by rw [q, heg'] at ho; cases ho) (fun q => by rw [q, hgd] at ho; cases ho) (F2.keep b o ho), F2.above⟩
        refine wpAny_execs_nil ?_
        refine ⟨L', _, [], F3, (fun _ h => nomatch h), fun F4 _ => ⟨rfl, ?_⟩⟩
        refine k e tt h₁.objs.size od h₃ _ F4 ?_ ho ⟨es, ep, t1, hod, hsk, by rw [hf]; rfl⟩ hde (fun q => ?_) heL ?_ heg
        · rw [hx3]
          obtain ⟨oc, odi, oda, osl⟩ := o₁
          dsimp only at c3 d3 sl3 hdd
          subst c3 d3 sl3 hdd
          rfl
        · obtain ⟨o, _, _, hoL, _⟩ := FG.ns
          rw [← q, hgd] at hoL
          cases hoL
        · cases q : Γ.g.get? h₁.objs.size with
          | none => rfl
          | some o => have := st' _ o q; rw [hgd] at this; cases this
    · revert hy; intro hy
      split at hy
      · rename_i q; rw [q]; exact .head _
      · exact absurd rfl hy
theorem flies_made {hW : W.Ok} {hΓ : Γ.Ok W} {h' : Heap} {mc : Str → Option Value} {e t d : Addr} {od : Obj} {line : Int} (F : Fr Γ.g Γ.L h' mc) (he : h'.get? e = some (excObj W.bad t (some d))) (hd : h'.get? d = some od) (hl : LineOf od line)
    (hde : d ≠ e) (hdL : d ≠ Γ.L) (hgd : Γ.g.get? d = none) (hge : Γ.g.get? e = none) : Flies W.bad W.b (Γ.env :: Γ.outer) e line h' := by
  have toB : ∀ x, Γ.g.get? x = none → W.b.get? x = none := fun x hx => by
    cases q : W.b.get? x with
    | none => rfl
    | some o => rw [hΓ.below.stays x o q] at hx; cases hx
  refine ⟨none, ⟨fun b o hb => F.keep b o (hΓ.below.stays b o hb), toB e hge, (pushX hΓ.below F rfl hΓ.kind).frames, _, _, d, od, he, rfl, rfl, rfl, toB d hgd, ?_, hde, hd, hl, rfl⟩, .inl rfl⟩
  intro hm
  rw [List.filterMap_cons] at hm
  rcases List.mem_cons.mp (show d ∈ Γ.L :: Γ.outer.filterMap (·.frame) from hm) with q | q
  · exact hdL q
  · obtain ⟨_, o, ho, _⟩ := hΓ.below.frames.mem q
    rw [hgd] at ho; cases ho
theorem s_raise {n : Nat} {X : Int → Prop} {x : Str} {npos cpos pos : Pos} {e1 e2 : Expr} {Q : Fl → Loc → Store → Prop} {fI : Addr} {cd : Value} {params : Arguments} {body : List Stmt} {scope : Scope} {qual : Str} (hb : BadOk W fI cd params body scope qual)
    (e : nsIn W.K mainGlobals x = some (some (.ref W.bad))) (hk : keepIn W.K (.ref W.bad) = true)
    (h : WEs W Γ (n + 2) cpos [e1, e2] m S (fun as S1 => ∃ line v, as = [.int line, v] ∧ X line) X)
    (hk' : Γ.ev.scope.kind = .function := by kernel_rfl) (hx : Γ.ev.kindOf x = some .globalImplicit := by kernel_rfl) (hd : (x == ("__debug__" : Str)) = false := by kernel_rfl)
    (he : ∀ env, eval (.Call (.Name x npos) [e1, e2] [] cpos) env = (do callWith cpos (← eval (.Name x npos) env) [] (backTo cpos (starEach [e1, e2] env)) (backToKw cpos (keywordEach [] env))) := by intro _; kernel_rfl)
    (h1 : ∀ env, starEach [e1, e2] env = (false, eval e1 env) :: starEach [e2] env := by intro _; kernel_rfl) (h2 : ∀ env, (backTo cpos (starEach [e2] env)).any (·.1) = false := by intro _; kernel_rfl) :
    W1 W Γ (n + 2) (.Raise (some (.Call (.Name x npos) [e1, e2] [] cpos)) none pos) m S Q X := by
  intro hW hΓ B hd' tl s hB hs
  obtain ⟨nm, q, N, bs, sn, sub, ab, col, dd, k0, k1, k2, k3, k5, hC, _⟩ := hb.cls
  have hK : W.K.In s.heap := by obtain ⟨mc, cs, c2⟩ := hs; exact c2.inK hW hΓ
  obtain ⟨mc0, cs0, h0⟩ := id hs
  rw [arm_exec_Raise]
  refine wpAny_bind (wpAny_standAt (raise_made (C := W.bad) (nm := nm) (q := q) (N := N) (bs := bs) (bm := bmE) (hdct := true) (sn := sn) (sub := sub) (ab := ab) (col := col) (dd := dd) (k0 := k0) (k1 := k1) (k2 := k2) (k3 := k3) (k5 := k5) (newId := "Exception.__new__") (by decide) hB.handled
    (wpAny_bind (wpAny_mono (Call_ (name_K hW hΓ hs e ?_ hk' hx hd) (he _)) (Q := fun v s₃ => ∃ e t dx, v = .ref e ∧ s₃.heap.get? W.bad = some (excClassObj nm q W.bad N bs bmE true sn sub ab col dd k0 k1 k2 k3 k5 "Exception.__new__") ∧ s₃.heap.get? e = some (excObj W.bad t dx) ∧ XS W Γ X (.ref e) s₃) (fun v s₃ h₃ => wpAny_bind (wpAny_standAt (wpAny_pure h₃))) fun _ _ x => x))))
  refine callWith_K (h₀ := s.heap) hK hk (wpAny_mono (h hW hΓ B hd' tl s hB hs) ?_ fun _ _ e => e.toS) (h1 _) (h2 _)
  rintro vs s2 ⟨as, S2, tl2, x2, ⟨mc, cs, st2⟩, r2, line, v, rfl, hX⟩
  refine ⟨st2.inK hW hΓ, ?_⟩
  apply VRs.on_cons r2; intro v1 vr rv1 rr
  cases rv1 with
  | int _ t1 =>
    apply VRs.on1 rr; intro v2 rv2
    refine call_bad hb hW hΓ (hB.le (by lia)) st2 fun e t d od h' tk F he hd' hl hde hdL heL hgd hge => ?_
    exact ⟨e, t, some d, rfl, ((hΓ.inK hW).keeps F.keep) _ _ hC, he, m, line, hX, e, rfl, ⟨st2.sh.gens, st2.sh.drawn, st2.sh.os⟩, ⟨h', mc, tl2, F, st2.lr, Heap.UpToSlots.refl _⟩, flies_made (hW := hW) (hΓ := hΓ) F he hd' hl hde hdL hgd hge⟩
end
end
section
noncomputable abbrev sOf (l : List Nat) : Str := ⟨l.toArray⟩
theorem eq_sOf {x : Str} {l : List Nat} (h : x.cps.toList = l) : x = sOf l := by cases x; subst h; rfl
theorem len_sOf (l : List Nat) : (sOf l).length = l.length := by show l.toArray.size = _; simp
theorem beq_sOf (a b : List Nat) : (sOf a == sOf b) = (a == b) := by
  rw [Bool.eq_iff_iff, beq_iff_eq, beq_iff_eq]
  constructor
  · intro h; have := congrArg (fun s : Str => s.cps.toList) h; exact this
  · intro h; rw [h]
theorem bne_sOf (a b : List Nat) : (sOf a != sOf b) = (a != b) := by show (!(sOf a == sOf b)) = !(a == b); rw [beq_sOf]
section
variable {W : Wd} {Γ : Fc} {n : Nat} {m : Loc} {S : Store} {X : Int → Prop} {Q : AV → Store → Prop}
theorem b_addi {i j : Int} (q : Q (.int (i + j)) S) : WB W Γ n .Add (.int i) (.int j) m S Q X := fun _ _ _ _ _ _ _ _ _ hs r1 r2 => by
  (apply VR.on_int r1; intro _); (apply VR.on_int r2; intro _); exact add_int (.val hs (.int _ _) q _)
theorem b_muli {i j : Int} (q : Q (.int (i * j)) S) (ok : IntMulOk i j) : WB W Γ n .Mult (.int i) (.int j) m S Q X := fun _ _ _ _ _ _ _ _ _ hs r1 r2 => by
  (apply VR.on_int r1; intro _); (apply VR.on_int r2; intro _); exact mul_int (.val hs (.int _ _) q _) ok
theorem b_subi {i j : Int} (q : Q (.int (i - j)) S) : WB W Γ n .Sub (.int i) (.int j) m S Q X := fun _ _ _ _ _ _ _ _ _ hs r1 r2 => by
  (apply VR.on_int r1; intro _); (apply VR.on_int r2; intro _); exact sub_int (.val hs (.int _ _) q _)
theorem b_modi {i j : Int} (q : Q (.int (Int.fmod i j)) S) (hj : j ≠ 0) : WB W Γ n .Mod (.int i) (.int j) m S Q X := fun _ _ _ _ _ _ _ _ _ hs r1 r2 => by
  (apply VR.on_int r1; intro _); (apply VR.on_int r2; intro _); exact mod_int' hj (.val hs (.int _ _) q _)
theorem b_adds {x y : List Nat} (q : Q (.str (x ++ y)) S) (ok : x.length + y.length ≤ 100000) : WB W Γ n .Add (.str x) (.str y) m S Q X := fun _ _ _ _ _ _ _ _ _ hs r1 r2 => by
  apply VR.on_str r1; intro s1 t1 h1
  apply VR.on_str r2; intro s2 t2 h2
  refine add_str (fun t' tk => .val hs (.str _ _ _ ?_) q _) ?_
  · show (s1.cps ++ s2.cps).toList = _
    rw [Array.toList_append, h1, h2]
  · have e1 : s1.length = x.length := by rw [← h1]; rfl
    have e2 : s2.length = y.length := by rw [← h2]; rfl
    rw [sizeLine_eq, e1, e2]; lia
theorem c_eqi {i j : Int} (q : Q (.bool (i == j)) S) : WC W Γ n .Eq (.int i) (.int j) m S Q X := fun _ _ _ _ _ _ _ _ _ hs r1 r2 => by
  (apply VR.on_int r1; intro _); (apply VR.on_int r2; intro _); exact eq_int (.now hs (.bool _) q)
theorem c_nei {i j : Int} (q : Q (.bool (i != j)) S) : WC W Γ n .NotEq (.int i) (.int j) m S Q X := fun _ _ _ _ _ _ _ _ _ hs r1 r2 => by
  (apply VR.on_int r1; intro _); (apply VR.on_int r2; intro _); exact ne_int (.now hs (.bool _) q)
theorem c_lti {i j : Int} (q : Q (.bool (decide (i < j))) S) : WC W Γ n .Lt (.int i) (.int j) m S Q X := fun _ _ _ _ _ _ _ _ _ hs r1 r2 => by
  (apply VR.on_int r1; intro _); (apply VR.on_int r2; intro _); exact lt_int (.now hs (.bool _) q)
theorem c_gti {i j : Int} (q : Q (.bool (decide (j < i))) S) : WC W Γ n .Gt (.int i) (.int j) m S Q X := fun _ _ _ _ _ _ _ _ _ hs r1 r2 => by
  (apply VR.on_int r1; intro _); (apply VR.on_int r2; intro _); exact gt_int (.now hs (.bool _) q)
theorem c_gei {i j : Int} (q : Q (.bool (decide (j ≤ i))) S) : WC W Γ n .GtE (.int i) (.int j) m S Q X := fun _ _ _ _ _ _ _ _ _ hs r1 r2 => by
  (apply VR.on_int r1; intro _); (apply VR.on_int r2; intro _); exact ge_int (.now hs (.bool _) q)
theorem c_eqs {x y : List Nat} (q : Q (.bool (x == y)) S) : WC W Γ n .Eq (.str x) (.str y) m S Q X := fun _ _ _ _ _ _ _ _ _ hs r1 r2 => by
  apply VR.on_str r1; intro s1 t1 h1
  apply VR.on_str r2; intro s2 t2 h2
  rw [eq_sOf h1, eq_sOf h2]; exact eq_str (by rw [beq_sOf]; exact .now hs (.bool _) q)
theorem c_nes {x y : List Nat} (q : Q (.bool (x != y)) S) : WC W Γ n .NotEq (.str x) (.str y) m S Q X := fun _ _ _ _ _ _ _ _ _ hs r1 r2 => by
  apply VR.on_str r1; intro s1 t1 h1
  apply VR.on_str r2; intro s2 t2 h2
  rw [eq_sOf h1, eq_sOf h2]; exact ne_str (by rw [bne_sOf]; exact .now hs (.bool _) q)
theorem c_inc {c : Nat} {y : List Nat} (q : Q (.bool (decide (c ∈ y))) S) : WC W Γ n .In (.str [c]) (.str y) m S Q X := fun _ _ _ _ _ _ _ _ _ hs r1 r2 => by
  apply VR.on_str r1; intro s1 t1 h1
  apply VR.on_str r2; intro s2 t2 h2
  rw [eq_sOf h1, eq_sOf h2]; exact in_str (by rw [show sOf [c] = ⟨#[c]⟩ from rfl, StrLaws.found_one]; exact .now hs (.bool _) q)
theorem c_ninc {c : Nat} {y : List Nat} (q : Q (.bool (!decide (c ∈ y))) S) : WC W Γ n .NotIn (.str [c]) (.str y) m S Q X := fun _ _ _ _ _ _ _ _ _ hs r1 r2 => by
  apply VR.on_str r1; intro s1 t1 h1
  apply VR.on_str r2; intro s2 t2 h2
  rw [eq_sOf h1, eq_sOf h2]; exact PyProof.Rows.notIn_str (by rw [show sOf [c] = ⟨#[c]⟩ from rfl, StrLaws.found_one]; exact .now hs (.bool _) q)
noncomputable def hasSub (x y : List Nat) : Bool := !(Builtin.Str.occurrences (sOf y) (sOf x) 0 y.length 1).isEmpty
theorem c_nins {x y : List Nat} (q : Q (.bool (!hasSub x y)) S) : WC W Γ n .NotIn (.str x) (.str y) m S Q X := fun _ _ _ _ _ _ _ _ _ hs r1 r2 => by
  apply VR.on_str r1; intro s1 t1 h1
  apply VR.on_str r2; intro s2 t2 h2
  rw [eq_sOf h1, eq_sOf h2]; exact PyProof.Rows.notIn_str (by rw [len_sOf]; exact .now hs (.bool _) q)
theorem i_str {value slice : Expr} {l : List Nat} {i c : Nat} (hi : l[i]? = some c) (hlen : l.length ≤ 100000) (q : Q (.str [c]) S)
    (hs : ∀ x t k u, subscripted slice false (.str x t) (.int k u) = operate [.str x t, .int k u] (getItem (.str x t) (.int k u)) := by intros; kernel_rfl) : WI W Γ n value slice (.str l) (.int (i : Int)) m S Q X := fun _ _ _ _ _ _ _ _ _ st r1 r2 => by
  apply VR.on_str r1; intro s1 t1 h1
  cases r2 with
    | int _ u =>
      have hl : s1.length = l.length := by rw [← h1]; rfl
      have hlt := (List.getElem?_eq_some_iff.mp hi).1
      refine tail_any (typeIs_str _ _ _) PySem.F.slot_str_getitem.lookup (PyProof.Rows.getItem_str (c := c) ?_ ?_ (Post.val st (.str _ _ _ rfl) q _)) (hs _ _ _ _)
      · have h1 : ¬ ((i : Int) < -(2 ^ 63 : Int)) := by lia
        have h2 : ¬ ((i : Int) ≥ 2 ^ 63) := by lia
        rw [decide_eq_false h1, decide_eq_false h2]; rfl
      · rw [hl]
        have e : seqIndex? (i : Int) l.length = some i := by
          unfold seqIndex?
          have h1 : ¬ ((i : Int) < 0) := by lia
          have h2 : (i : Int) < l.length := by lia
          simp [h1, hlt]
        rw [e, Option.bind_some, ← Array.getElem?_toList, h1, hi]
theorem idx_nn (x : Str) (i j : Nat) : Builtin.Str.strSliceIndices (some (i : Int)) (some (j : Int)) 1 x.length = sliceRange ((min i x.length : Nat) : Int) ((min j x.length : Nat) : Int) 1 := by
    unfold Builtin.Str.strSliceIndices
    have h1 : ¬ ((i : Int) < 0) := by lia
    have h2 : ¬ ((j : Int) < 0) := by lia
    simp only [show (1 : Int) > 0 by decide, if_true, h1, h2, if_false]
    congr 1 <;> lia
theorem idx_sn (x : Str) (i : Nat) : Builtin.Str.strSliceIndices (some (i : Int)) none 1 x.length = Builtin.Str.strSliceIndices (some (i : Int)) (some (x.length : Int)) 1 x.length := by
    unfold Builtin.Str.strSliceIndices
    have h2 : ¬ ((x.length : Int) < 0) := by lia
    simp only [show (1 : Int) > 0 by decide, if_true, h2, if_false]
    congr 1; lia
theorem idx_ns (x : Str) (j : Nat) : Builtin.Str.strSliceIndices none (some (j : Int)) 1 x.length = Builtin.Str.strSliceIndices (some ((0 : Nat) : Int)) (some (j : Int)) 1 x.length := by
    unfold Builtin.Str.strSliceIndices
    simp only [show (1 : Int) > 0 by decide, if_true]
    congr 1
theorem idx_00 (x : Str) : Builtin.Str.strSliceIndices none none 1 x.length = Builtin.Str.strSliceIndices none (some (x.length : Int)) 1 x.length := by
        unfold Builtin.Str.strSliceIndices
        have h2 : ¬ ((x.length : Int) < 0) := by lia
        simp only [show (1 : Int) > 0 by decide, if_true, h2, if_false]
        congr 1; lia
theorem min_sub_min (i j n : Nat) : min j n - min i n = min j n - i := by
  rcases Nat.le_total i n with h | h
  · rw [Nat.min_eq_left h]
  · rw [Nat.min_eq_right h, Nat.sub_eq_zero_of_le (Nat.min_le_right j n), Nat.sub_eq_zero_of_le (Nat.le_trans (Nat.min_le_right j n) h)]
theorem len_nn (x : Str) (i j : Nat) : (Builtin.Str.strSliceIndices (some (i : Int)) (some (j : Int)) 1 x.length).length = ((x.cps.toList.take j).drop i).length := by
  rw [idx_nn, sliceRange_one, List.length_map, List.length_range, List.length_drop, List.length_take]; exact min_sub_min i j x.length
theorem pick_nn (x : Str) (i j : Nat) : (Builtin.Str.strSliceIndices (some (i : Int)) (some (j : Int)) 1 x.length).filterMap (x.cps[·]?) = (x.cps.toList.take j).drop i := by
  have hn : x.cps.toList.length = x.length := rfl
  rw [idx_nn, sliceRange_one, pick_run, min_sub_min, List.drop_take]
  rcases Nat.le_total i x.length with h | h
  · rw [Nat.min_eq_left h, List.take_eq_take_iff, List.length_drop, hn, ← Nat.sub_min_sub_right, Nat.min_assoc, Nat.min_self]
  · rw [Nat.min_eq_right h, List.drop_eq_nil_of_le (Nat.le_of_eq hn), List.drop_eq_nil_of_le (Nat.le_trans (Nat.le_of_eq hn) h), List.take_nil, List.take_nil]
theorem pick_sn (x : Str) (i : Nat) : (Builtin.Str.strSliceIndices (some (i : Int)) none 1 x.length).filterMap (x.cps[·]?) = x.cps.toList.drop i := by
  rw [idx_sn, pick_nn, List.take_of_length_le (show x.cps.toList.length ≤ x.length from Nat.le_refl _)]
theorem pick_ns (x : Str) (j : Nat) : (Builtin.Str.strSliceIndices none (some (j : Int)) 1 x.length).filterMap (x.cps[·]?) = x.cps.toList.take j := by
  rw [idx_ns, pick_nn, List.drop_zero]
noncomputable def Bnd : AV → Option (Option Nat)
  | .none => some none
  | .int i => if 0 ≤ i then some (some i.toNat) else none
  | _ => none
noncomputable def sl (l : List Nat) : Option Nat → Option Nat → List Nat
  | none, none => l
  | some i, none => l.drop i
  | none, some j => l.take j
  | some i, some j => (l.take j).drop i
noncomputable def WP (W : Wd) (Γ : Fc) (n : Nat) (e : Option Expr) (m : Loc) (S : Store) (Q : AV → Store → Prop) (X : Int → Prop) : Prop :=
  W.Ok → Γ.Ok W → ∀ B hd tl s, AOk Γ n B → St W Γ hd tl m S s → wpAny (model W.prog W.w) B (evalPart e Γ.ev) (Post W Γ hd tl m Q) (XP W Γ m X) s
theorem p_none (q : Q .none S) : WP W Γ n none m S Q X := fun _ _ _ _ _ _ _ hs => wpAny_pure (.now hs .none q)
theorem p_some {e : Expr} (h : WE W Γ n e m S Q X) : WP W Γ n (some e) m S Q X := h
theorem picked (x : Str) (l u : Option (Int × Tok)) (lo up : Option Nat) (hl : l.map (·.1) = lo.map Int.ofNat) (hu : u.map (·.1) = up.map Int.ofNat) :
    (slicePicked x l u none).filterMap (x.cps[·]?) = sl x.cps.toList lo up := by
  unfold slicePicked
  rw [hl, hu]
  cases lo with
  | none => cases up with
    | none =>
      show (Builtin.Str.strSliceIndices none none 1 x.length).filterMap (x.cps[·]?) = _
      rw [idx_00, pick_ns, List.take_of_length_le (show x.cps.toList.length ≤ x.length from Nat.le_refl _)]; rfl
    | some j => exact pick_ns x j
  | some i => cases up with
    | none => exact pick_sn x i
    | some j => exact pick_nn x i j
theorem picked_len (x : Str) (l u : Option (Int × Tok)) (lo up : Option Nat) (hl : l.map (·.1) = lo.map Int.ofNat) (hu : u.map (·.1) = up.map Int.ofNat) :
    (slicePicked x l u none).length = (sl x.cps.toList lo up).length := by
  have hn : x.cps.toList.length = x.length := by simp [Str.length]
  unfold slicePicked
  rw [hl, hu]
  cases lo with
  | none => cases up with
    | none =>
      show (Builtin.Str.strSliceIndices none none 1 x.length).length = _
      rw [idx_00, idx_ns, len_nn, List.drop_zero, List.take_of_length_le (by lia)]; rfl
    | some j =>
      show (Builtin.Str.strSliceIndices none (some (j : Int)) 1 x.length).length = _
      rw [idx_ns, len_nn, List.drop_zero]; rfl
  | some i => cases up with
    | none =>
      show (Builtin.Str.strSliceIndices (some (i : Int)) none 1 x.length).length = _
      rw [idx_sn, len_nn, List.take_of_length_le (by lia)]; rfl
    | some j => exact len_nn x i j
inductive KSl (a b : AV) (Q : AV → Store → Prop) (c : AV) (S : Store) : Prop
  | mk (x : List Nat) (lo up : Option Nat) (ea : a = .str x) (eb : Bnd b = some lo) (ec : Bnd c = some up) (hl : x.length ≤ 100000) (q : Q (.str (sl x lo up)) S)
noncomputable abbrev KSlU (W : Wd) (Γ : Fc) (n : Nat) (upper : Option Expr) (m : Loc) (Q : AV → Store → Prop) (X : Int → Prop) (a : AV) : AV → Store → Prop := fun b S2 => WP W Γ n upper m S2 (KSl a b Q) X
noncomputable abbrev KSlL (W : Wd) (Γ : Fc) (n : Nat) (lower upper : Option Expr) (m : Loc) (Q : AV → Store → Prop) (X : Int → Prop) : AV → Store → Prop := fun a S1 => WP W Γ n lower m S1 (KSlU W Γ n upper m Q X a) X
theorem e_sslice {value : Expr} {lower upper : Option Expr} {p pos : Pos}
    (h : WE W Γ n value m S (KSlL W Γ n lower upper m Q X) X) : WE W Γ n (.Subscript value (.Slice lower upper none p) pos) m S Q X := by
  intro hW hΓ B hd tl s hB hs
  refine Subscript_ (wpAny_mono (h hW hΓ B hd tl s hB hs) ?_ fun _ _ e => e)
  rintro v1 s1 ⟨a, S1, tl1, x1, st1, r1, q1⟩
  refine wpAny_Slice (wpAny_mono (q1 hW hΓ B hd tl1 s1 hB st1) ?_ fun _ _ e => e)
  rintro v2 s2 ⟨b, S2, tl2, x2, st2, r2, q2⟩
  refine wpAny_mono (q2 hW hΓ B hd tl2 s2 hB st2) ?_ fun _ _ e => e
  rintro v3 s3 ⟨c, S3, tl3, x3, ⟨mc, cs, st3⟩, r3, x, lo, up, rfl, hb, hc, hlen, q⟩
  have part : ∀ {v : Value} {av : AV} {tl : Led} {o : Option Nat}, VR W.b tl v av → Bnd av = some o → ∃ l : Option (Int × Tok), v = partValue l ∧ l.map (·.1) = o.map Int.ofNat := by
    intro v av tl o r e
    cases r with
    | none => cases e; exact ⟨none, rfl, rfl⟩
    | int i t =>
      by_cases h0 : 0 ≤ i
      · rw [show Bnd (.int i) = if 0 ≤ i then some (some i.toNat) else none from rfl, if_pos h0] at e
        cases e
        refine ⟨some (i, t), rfl, ?_⟩
        show some i = some (Int.ofNat i.toNat)
        rw [show Int.ofNat i.toNat = i from Int.toNat_of_nonneg h0]
      · rw [show Bnd (.int i) = if 0 ≤ i then some (some i.toNat) else none from rfl, if_neg h0] at e
        cases e
    | bool _ => cases e
    | str _ _ _ _ => cases e
    | tup _ _ _ _ _ => cases e
    | ref _ => cases e
  obtain ⟨l, el, hl⟩ := part r2 hb
  obtain ⟨u, eu, hu⟩ := part r3 hc
  apply VR.on_str r1; intro s0 t h1
  rw [evalPart_none]
  refine wpAny_pure (tail_any (typeIs_str _ s0 t) slot_str_getitem.lookup (wpAny_getItem_str_slice (l := l) (u := u) (st := none) ⟨_, Heap.get?_push_size _ rfl, rfl, by rw [el, eu]; rfl⟩ rfl ?_) (ops := [.ref s3.heap.objs.size, .str s0 t]) (by kernel_rfl))
  have F := st3.fr.push { cls := .type "slice", data := .fields #[v2, v3, .none] }
  have N := st3.nw.push st3.fr { cls := .type "slice", data := .fields #[v2, v3, .none] }
  have fin : ∀ (y : Str) t' tk, y.cps.toList = sl x lo up → Post W Γ hd tl m Q (.str y t') { s3 with heap := s3.heap.push { cls := .type "slice", data := .fields #[v2, v3, .none] }, toks := tk } := fun y t' tk e =>
    ⟨.str (sl x lo up), S3, tl3, (x1.trans x2).trans x3, ⟨mc, cs, ⟨F, News.sub N (fun p hp => .tail _ hp), st3.nd, st3.lr, st3.sr, st3.sh.gens, st3.sh.drawn, st3.sh.os⟩⟩, .str _ _ _ e, q⟩
  have pk := picked s0 l u lo up hl hu
  have le : (slicePicked s0 l u none).length ≤ s0.length := sliceIndices_le _ _ _
  have e0 : s0.cps.toList.length = s0.length := by simp [Str.length]
  have hx : s0.length ≤ 100000 := by rw [← e0, h1]; exact hlen
  have sub : ∀ (a : List Nat) o1 o2, (sl a o1 o2).length = a.length → sl a o1 o2 = a := by
    intro a o1 o2 h
    cases o1 <;> cases o2 <;> simp only [sl, List.length_drop, List.length_take] at h ⊢
    · rw [List.take_of_length_le (by lia)]
    · rename_i i
      by_cases hi : i = 0
      · subst hi; rfl
      · have : a = [] := List.eq_nil_of_length_eq_zero (by lia)
        subst this; simp
    · rename_i i j
      rw [List.take_of_length_le (by lia)]
      by_cases hi : i = 0
      · subst hi; rfl
      · have : a = [] := List.eq_nil_of_length_eq_zero (by lia)
        subst this; simp
  unfold sliceMade
  split
  · rename_i hc2
    refine fin s0 t _ ?_
    have hl2 : (slicePicked s0 l u none).length = s0.length := by simpa using hc2
    have := sub s0.cps.toList lo up (by rw [← picked_len s0 l u lo up hl hu, e0]; exact hl2)
    rw [← h1, this]
  · refine ⟨?_, fin _ _ _ (by rw [← h1]; simpa using pk)⟩
    show (List.toArray _).size ≤ _
    rw [List.size_toArray, sizeLine_eq]
    have := List.length_filterMap_le (s0.cps[·]?) (slicePicked s0 l u none)
    lia
end
end
section
theorem VRs.to_map {b : Heap} {tl : Led} : ∀ {vs : List Value} {avs : List AV}, VRs b tl vs avs → ∀ i : Nat, (∃ v av, vs[i]? = some v ∧ avs[i]? = some av ∧ VR b tl v av) ∨ (vs[i]? = none ∧ avs[i]? = none)
  | _, _, .nil, i => .inr ⟨by simp, by simp⟩
  | _, _, .cons v av _ _ h r, 0 => .inl ⟨v, av, rfl, rfl, h⟩
  | _, _, .cons _ _ _ _ _ r, i + 1 => by simpa using r.to_map i
theorem VRs.set {b : Heap} {tl : Led} {v : Value} {av : AV} (hv : VR b tl v av) : ∀ {vs : List Value} {avs : List AV}, VRs b tl vs avs → ∀ i : Nat, VRs b tl (vs.set i v) (avs.set i av)
  | _, _, .nil, _ => by simpa using VRs.nil
  | _, _, .cons _ _ _ _ _ r, 0 => .cons _ _ _ _ hv r
  | _, _, .cons _ _ _ _ h r, i + 1 => .cons _ _ _ _ h (r.set hv i)
theorem StC.lst {W : Wd} {Γ : Fc} {hd tl : Led} {m : Loc} {S : Store} {mc : Str → Option Value} {cs : Led} {s : Shared} (h : StC W Γ hd tl m S mc cs s) {l : Addr} {as : List AV} (e : S l = some (.lst as)) :
    ∃ vs k, (l, listOf vs.toArray k) ∈ cs ∧ VRs W.b tl vs as ∧ s.heap.IsList l vs.toArray := by
  obtain ⟨o, ho, r⟩ := h.obj e
  cases r with
  | lst vs k _ r => exact ⟨vs, k, ho, r, _, (h.nw _ (List.mem_append_right _ ho)).1, rfl, k, rfl⟩
section
variable {W : Wd} {Γ : Fc} {n : Nat} {m : Loc} {S : Store} {X : Int → Prop} {Q : AV → Store → Prop}
theorem i_lst {value slice : Expr} {l : Addr} {as : List AV} {i : Nat} {av : AV} (e : S l = some (.lst as)) (hi : as[i]? = some av) (q : Q av S) (hz : as.length ≤ 100000 := by (first | assumption | lia | decide))
    (hs : ∀ a k u, subscripted slice false (.ref a) (.int k u) = operate [.ref a, .int k u] (getItem (.ref a) (.int k u)) := by intros; kernel_rfl) : WI W Γ n value slice (.ref l) (.int (i : Int)) m S Q X := fun _ _ _ _ _ _ _ _ _ st r1 r2 => by
  apply VR.on_ref r1
  (apply VR.on_int r2; intro _)
  obtain ⟨mc, cs, c⟩ := id st
  obtain ⟨vs, k, hm, r, hl⟩ := c.lst e
  obtain ⟨v, hv, rv⟩ := r.get hi
  have hlt := (List.getElem?_eq_some_iff.mp hi).1
  exact tail_any hl.typeIs slot_list_getitem.lookup (wpAny_getItem_list hl (by lia) (by lia) (by simpa using hv) (.now st rv q)) (hs _ _ _)
theorem i_tup {value slice : Expr} {as : List AV} {i : Nat} {av : AV} (hi : as[i]? = some av) (q : Q av S) (hz : as.length ≤ 100000 := by (first | assumption | lia | decide))
    (hs : ∀ a k u, subscripted slice false (.ref a) (.int k u) = operate [.ref a, .int k u] (getItem (.ref a) (.int k u)) := by intros; kernel_rfl) : WI W Γ n value slice (.tup as) (.int (i : Int)) m S Q X := fun _ hΓ _ _ _ _ _ _ _ st r1 r2 => by
  (apply VR.on_int r2; intro _)
  apply VR.on_tup r1; intro a vs t r
  obtain ⟨mc, cs, c⟩ := id st
  obtain ⟨v, hv, rv⟩ := r.get hi
  have hlt := (List.getElem?_eq_some_iff.mp hi).1
  have e1 := r.length
  refine item_tupleT (c.tup hΓ t) (by lia) (by lia) (j := i) ?_ hv (.now st rv q) (hs _ _ _)
  unfold seqIndex?
  have h1 : ¬ ((i : Int) < 0) := by lia
  have h2 : (i : Int) < vs.length := by lia
  simp [h1]; lia
theorem f_len_lst {l : Addr} {as : List AV} (e : S l = some (.lst as)) (q : Q (.int as.length) S) (hz : as.length ≤ 100000 := by (first | assumption | lia | decide)) : WF W Γ n (.builtin "len") [.ref l] m S Q X := fun _ _ _ _ _ _ _ _ st r => by
  apply VRs.on1 r; intro v rv
  apply VR.on_ref rv
  obtain ⟨mc, cs, c⟩ := id st
  obtain ⟨vs, k, hm, r, hl⟩ := c.lst e
  have e1 := r.length
  refine len_list hl (by rw [List.size_toArray, e1]; lia) ?_
  rw [List.size_toArray, e1]
  exact .val st (.int _ _) q _
theorem f_len_str {x : List Nat} (q : Q (.int x.length) S) (hz : x.length ≤ 100000 := by (first | assumption | lia | decide)) : WF W Γ n (.builtin "len") [.str x] m S Q X := fun _ _ _ _ _ _ _ _ st r => by
  apply VRs.on1 r; intro v rv
  apply VR.on_str rv; intro s t h
  have e : s.length = x.length := by rw [← h]; rfl
  refine PyProof.Rows.len_str (by rw [e]; lia) ?_
  rw [e]
  exact .val st (.int _ _) q _
theorem f_append {l : Addr} {as : List AV} {a : AV} (e : S l = some (.lst as)) (q : Q .none (upd S l (.lst (as ++ [a])))) (hz : as.length ≤ 100000 := by (first | assumption | lia | decide)) : WF W Γ n (.builtin "list.append") [.ref l, a] m S Q X := fun _ _ _ _ _ _ _ _ st r => by
  apply VRs.on_cons r; intro v _ rv rr
  apply VR.on_ref rv
  apply VRs.on1 rr; intro v2 rv2
  obtain ⟨mc, cs, c⟩ := id st
  obtain ⟨vs, k, hm, r, hl⟩ := c.lst e
  have e1 := r.length
  refine append_K c.fr c.nw (c.updOf hm) (fun h' F N => ?_) (by rw [List.size_toArray, e1, sizeLine_eq]; lia)
  refine ⟨.none, _, _, Ext.refl _, ⟨mc, _, c.put (tk := _) hm F N ?_⟩, .none, q⟩
  have := OR.lst (P := W.w.params) (vs ++ [v2]) (k + 1) _ (r.append (.cons _ _ _ _ rv2 .nil))
  simpa using this
theorem f_extend {l l2 : Addr} {as bs : List AV} (e : S l = some (.lst as)) (e2 : S l2 = some (.lst bs)) (hb : bs ≠ []) (q : Q .none (upd S l (.lst (as ++ bs)))) (hz : as.length + bs.length ≤ 10000 := by (first | assumption | lia | decide)) :
    WF W Γ n (.builtin "list.extend") [.ref l, .ref l2] m S Q X := fun _ _ _ _ _ _ _ _ st r => by
  apply VRs.on_cons r; intro v _ rv rr
  apply VR.on_ref rv
  apply VRs.on1 rr; intro v2 rv2
  apply VR.on_ref rv2
  obtain ⟨mc, cs, c⟩ := id st
  obtain ⟨vs, k, hm, r, hl⟩ := c.lst e
  obtain ⟨vs2, k2, hm2, r2, hl2⟩ := c.lst e2
  have e1 := r.length
  have e3 := r2.length
  refine kl_extend (l := vs ++ vs2) c.fr c.nw (List.mem_append_right _ hm2) (by simp) (by simp [e3]; exact hb) (c.updOf hm) ?_ (by simp [e1, sizeLine_eq]; lia) (by simp [e1, e3, sizeLine_eq]; lia) (fun h' F N => ?_)
  · simp only [List.size_toArray, e1, e3, Bool.and_eq_true, not_and]
    intro _
    unfold Builtin.List.listTooLong
    simp [sizeLine_eq]
    lia
  · exact ⟨.none, _, _, Ext.refl _, ⟨mc, _, c.put (tk := _) hm F N (.lst (vs ++ vs2) (k + 1) _ (r.append r2))⟩, .none, q⟩
theorem f_list_lst {l : Addr} {as : List AV} (e : S l = some (.lst as)) (q : ∀ l', S l' = none → Q (.ref l') (upd S l' (.lst as))) (hz : as.length ≤ 100000 := by (first | assumption | lia | decide)) : WF W Γ n (.type "list") [.ref l] m S Q X := fun _ _ _ _ _ _ _ _ st r => by
  apply VRs.on1 r; intro v rv
  apply VR.on_ref rv
  obtain ⟨mc, cs, c⟩ := id st
  obtain ⟨vs, k, hm, r, hl⟩ := c.lst e
  have e1 := r.length
  refine list_copyK c.fr c.nw hl (fun D k' h' F N l1 => ?_) (by rw [List.size_toArray, e1, sizeLine_eq]; lia)
  obtain ⟨c2, hn⟩ := c.new (tk := _) F N l1 (.lst _ _ _ r)
  exact ⟨.ref D, _, _, Ext.refl _, ⟨_, _, c2⟩, .ref _, q D hn⟩
theorem f_tuple_lst {l : Addr} {as : List AV} (e : S l = some (.lst as)) (q : Q (.tup as) S) (hz : as.length ≤ 10000 := by (first | assumption | lia | decide)) : WF W Γ n (.type "tuple") [.ref l] m S Q X := fun _ _ _ _ _ s0 _ _ st r => by
  apply VRs.on1 r; intro v rv
  apply VR.on_ref rv
  obtain ⟨mc, cs, c⟩ := id st
  obtain ⟨vs, k, hm, r, hl⟩ := c.lst e
  have e1 := r.length
  refine kde_tupleOf c.fr c.nw hl (by rw [List.size_toArray, e1]; lia) rfl (fun D h' F N l1 => ?_)
  have c2 := c.newT (tk := s0.toks) F N l1
  exact ⟨.tup as, S, _, Ext.cons _ _, ⟨_, _, c2⟩, .tup _ _ _ (.inr ⟨_, _, .head _, rfl, rfl⟩) (r.ext (Ext.cons _ _)), q⟩
theorem b_addl {l l2 : Addr} {as bs : List AV} (e : S l = some (.lst as)) (e2 : S l2 = some (.lst bs)) (q : ∀ l', S l' = none → Q (.ref l') (upd S l' (.lst (as ++ bs)))) (hz : as.length + bs.length ≤ 10000 := by (first | assumption | lia | decide)) :
    WB W Γ n .Add (.ref l) (.ref l2) m S Q X := fun _ _ _ _ _ _ _ _ _ st r1 r2 => by
  apply VR.on_ref r1; apply VR.on_ref r2
  obtain ⟨mc, cs, c⟩ := id st
  obtain ⟨vs, k, hm, r, hl⟩ := c.lst e
  obtain ⟨vs2, k2, hm2, r2, hl2⟩ := c.lst e2
  have e1 := r.length
  have e3 := r2.length
  refine add_lists c.fr c.nw hl hl2 (fun h' F N => ?_) (by rw [e1, e3, sizeLine_eq]; lia)
  obtain ⟨c2, hn⟩ := c.new (tk := _) (o := listOf (vs ++ vs2).toArray 0) F N (fun p hp => Heap.lt_size (c.nw p hp).1) (.lst _ _ _ (r.append r2))
  exact ⟨.ref _, _, _, Ext.refl _, ⟨_, _, c2⟩, .ref _, q _ hn⟩
end
end
section
theorem St.keeps {W : Wd} {Γ : Fc} {hd tl : Led} {m : Loc} {S : Store} {s : Shared} (h : St W Γ hd tl m S s) {h' : Heap} (k : ∀ b o, s.heap.get? b = some o → h'.get? b = some o) (tk : Nat) : St W Γ hd tl m S { s with heap := h', toks := tk } :=
  let ⟨mc, cs, c⟩ := h
  ⟨mc, cs, c.fr.keeps k, fun p hp => ⟨k _ _ (c.nw p hp).1, (c.nw p hp).2⟩, c.nd, c.lr, c.sr, c.sh.gens, c.sh.drawn, c.sh.os⟩
section
variable (W : Wd) (Γ : Fc) (n : Nat)
noncomputable def WA (tgt : Expr) (av : AV) (m : Loc) (S : Store) (Q : Loc → Store → Prop) : Prop := W.Ok → Γ.Ok W → ∀ B hd tl s v (E : Value → Shared → Prop), AOk Γ n B → St W Γ hd tl m S s → VR W.b tl v av →
  wpAny (model W.prog W.w) B (assign tgt Γ.ev v) (fun _ => PostU W Γ hd tl Q) E s
noncomputable def WAs (tgts : List Expr) (avs : List AV) (m : Loc) (S : Store) (Q : Loc → Store → Prop) : Prop := W.Ok → Γ.Ok W → ∀ B hd tl s vs (E : Value → Shared → Prop), AOk Γ n B → St W Γ hd tl m S s → VRs W.b tl vs avs →
  wpAny (model W.prog W.w) B (assignInOrder ((assignEach tgts Γ.ev).map (·.2)) vs) (fun _ => PostU W Γ hd tl Q) E s
end
section
variable {W : Wd} {Γ : Fc} {n : Nat} {m : Loc} {S : Store}
theorem w_name {x : Str} {p : Pos} {i : Nat} {av : AV} {Q : Loc → Store → Prop} (hx : Ix x i Γ.ns) (q : Q (m.set i (some av)) S) (hb : Γ.blk = none := by kernel_rfl) : WA W Γ n (.Name x p) av m S Q := by
  intro hW hΓ B hd tl s v E hB hs rv
  obtain ⟨mc, cs, st1⟩ := hs
  rw [Fc.ev_env hb]
  refine wpAny_assign_Name (storeX_L st1.fr st1.nw (fun h' F N => ?_) hΓ.kind (hΓ.loc x hx.mem))
  exact ⟨_, S, tl, Ext.refl _, ⟨_, _, st1.store hΓ hx rv F N⟩, q⟩
theorem w_bname {x : Str} {p : Pos} {b : Blk} {f : List (Str × AV)} {av : AV} {Q : Loc → Store → Prop} (hb : Γ.blk = some b) (hC : S b.C = some (.ns f)) (hf : x ∉ f.map (·.1)) (q : Q m (upd S b.C (.ns ((x, av) :: f))))
    (hk : b.scope.kind = .function := by kernel_rfl) (hx : Γ.ev.kindOf x = some .local := by kernel_rfl) : WA W Γ n (.Name x p) av m S Q := by
  intro hW hΓ B hd tl s v E hB hs rv
  obtain ⟨mc, cs, c⟩ := hs
  obtain ⟨o, ho, r⟩ := c.obj hC
  cases r with
  | ns _ es ep _ hd1 hsk r =>
    have e : Γ.ev = compEnvC b.scope b.cl b.C Γ.env := by unfold Fc.ev; rw [hb]
    rw [e] at hx ⊢
    have hm := c.nw _ (List.mem_append_right _ ho)
    refine wpAny_assign_Name (wpAny_storeName_local (env := compEnvC b.scope b.cl b.C Γ.env) (m := fun y => nsFind es y) hx ⟨o, es, ep, hm.1, hd1, hsk, fun _ => rfl⟩ (fun h' hn hs' => ?_) ?_)
    · obtain ⟨o', es', ep', g', d', k', f'⟩ := hn
      have F := c.fr.change hs' hm.2.1 hm.2.2
      have g2 : h'.get? b.C = some o' := g'
      have N : News Γ.g Γ.L h' (hd ++ tl ++ rep b.C o' cs) := by
        have h0 : News Γ.g Γ.L h' (rep b.C o' (hd ++ tl ++ cs)) := News.replace c.nw hs' g2
        rw [rep_append, rep_off (c.off ho)] at h0
        exact h0
      refine ⟨m, _, tl, Ext.refl _, ⟨mc, _, c.put (tk := _) ho F N (.ns o' es' ep' _ d' k' fun y aw hy => ?_)⟩, q⟩
      rcases List.mem_cons.mp hy with e | hy
      · cases e
        exact ⟨v, by rw [f']; simp, rv⟩
      · obtain ⟨u, hu, ru⟩ := r y aw hy
        have : y ≠ x := fun q => hf (q ▸ List.mem_map.mpr ⟨_, hy, rfl⟩)
        exact ⟨u, by rw [f']; simp only [if_neg this]; exact hu, ru⟩
    · show (b.scope.kind == .class || (b.scope.kind == .module && _)) = false
      rw [hk]; rfl
theorem as_nil {Q : Loc → Store → Prop} (q : Q m S) : WAs W Γ n [] [] m S Q := fun _ _ _ _ tl _ vs _ _ hs rv => by
  cases rv
  exact wpAny_pure ⟨m, S, tl, Ext.refl _, hs, q⟩
theorem as_cons {e : Expr} {es : List Expr} {av : AV} {avs : List AV} {Q : Loc → Store → Prop} (h : WA W Γ n e av m S (fun m1 S1 => WAs W Γ n es avs m1 S1 Q))
    (he : ∀ env, (assignEach (e :: es) env).map (·.2) = assign e env :: (assignEach es env).map (·.2) := by intro _; kernel_rfl) : WAs W Γ n (e :: es) (av :: avs) m S Q := fun hW hΓ B hd tl s vs E hB hs rv => by
  apply VRs.on_cons rv; intro v vs rv rr
  rw [he]
  show wpAny _ _ (do holding vs (assign e Γ.ev v); assignInOrder _ vs) _ _ _
  refine wpAny_bind (wpAny_holding (wpAny_mono (h hW hΓ B hd tl s v E hB hs rv) ?_ fun _ _ e => e))
  rintro _ s1 ⟨m1, S1, tl1, x1, st1, q1⟩
  exact wpAny_mono (q1 hW hΓ B hd tl1 s1 vs E hB st1 (rr.ext x1)) (fun _ _ ⟨m2, S2, tl2, x2, r, q⟩ => ⟨m2, S2, tl2, x1.trans x2, r, q⟩) fun _ _ e => e
theorem w_tup {es : List Expr} {k : Nat} {p : Pos} {avs : List AV} {Q : Loc → Store → Prop} (h : WAs W Γ n es avs m S Q) (hl : ∀ env, (assignEach es env).length = avs.length := by intro _; kernel_rfl)
    (hstar : ∀ env, (assignEach es env).findIdx? (·.1) = none := by intro _; kernel_rfl) : WA W Γ n (.Tuple es k p) (.tup avs) m S Q := fun hW hΓ B hd tl s v E hB hs rv => by
  apply VR.on_tup rv; intro a vs t r
  obtain ⟨mc, cs, c⟩ := id hs
  obtain ⟨o, ho, hc, k', hd'⟩ := c.tup hΓ t
  refine wpAny_assign_Tuple (items := vs.toArray) hB.handled ⟨o, ho, hc, k', hd'⟩ (by rw [hl, List.size_toArray, r.length]) (hstar _) fun h' hx => ?_
  have k0 : ∀ b o, s.heap.get? b = some o → h'.get? b = some o := fun b o e => hx b o (Nat.ne_of_lt (Heap.lt_size e)) e
  exact h hW hΓ B hd tl _ vs E hB (hs.keeps k0 s.toks) r
structure Itr (W : Wd) (Γ : Fc) (n : Nat) (tgt : Expr) (it : Value) (items : List AV) (tl0 : Led) (fin : Store → Store) (P : Option Nat → Led → Prop) : Prop where
  next : ∀ k ld B hd tl m S s (Q : Value → Shared → Prop) (R : Option Value → Shared → Prop) (E E' : Value → Shared → Prop), W.Ok → Γ.Ok W → P (some k) ld → Ext tl0 tl → AOk Γ n B → St W Γ (ld ++ hd) tl m S s → ∀ av, items[k]? = some av →
    (∀ v s1, wpAny (model W.prog W.w) B (letOwnedTupleGo tgt it v) (fun _ s2 => Q v s2) E' s1 → R (some v) s1) →
    (∀ v ld' tl' s', P (some (k + 1)) ld' → Ext tl tl' → St W Γ (ld' ++ hd) tl' m S s' → VR W.b tl' v av → Q v s') →
    wpAny (model W.prog W.w) B (pyNext it) R E s
  done : ∀ k ld B hd tl m S s (Q : Option Value → Shared → Prop) E, W.Ok → Γ.Ok W → P (some k) ld → Ext tl0 tl → AOk Γ n B → St W Γ (ld ++ hd) tl m S s → items.length = k →
    (∀ ld' s', P none ld' → St W Γ (ld' ++ hd) tl m S s' → Q none s') → wpAny (model W.prog W.w) B (pyNext it) Q E s
  self : ∀ k ld B hd tl m S s (Q : Value → Shared → Prop) E, W.Ok → Γ.Ok W → P (some k) ld → Ext tl0 tl → AOk Γ n B → St W Γ (ld ++ hd) tl m S s → Q it s → wpAny (model W.prog W.w) B (pyIter it) Q E s
  leave : ∀ j ld hd tl m S s, P j ld → Ext tl0 tl → St W Γ (ld ++ hd) tl m S s → St W Γ hd tl m (fin S) s ∧ ∀ x ao, S x = some ao → fin S x = some ao
noncomputable def Src (W : Wd) (Γ : Fc) (n : Nat) (tgt : Expr) (av : AV) (items : List AV) (S S0 : Store) (fin : Store → Store) : Prop := ∀ B hd tl m s v (Q : Value → Shared → Prop) (E : Value → Shared → Prop), W.Ok → Γ.Ok W → AOk Γ n B → St W Γ hd tl m S s → VR W.b tl v av →
  (∀ it tl0 P ld s', Itr W Γ n tgt it items tl0 fin P → P (some 0) ld → Ext tl0 tl → St W Γ (ld ++ hd) tl m S0 s' → Q it s') → wpAny (model W.prog W.w) B (pyIter v) Q E s
noncomputable abbrev KTurn (I : Nat → Loc → Store → Prop) (k : Nat) (fin : Store → Store) (Q : Fl → Loc → Store → Prop) : Fl → Loc → Store → Prop := fun f m3 S4 => match f with
  | .nxt => I (k + 1) m3 S4
  | .cnt => I (k + 1) m3 S4
  | .brk => Q .nxt m3 (fin S4)
  | .ret v => Q (.ret v) m3 (fin S4)
noncomputable abbrev KBody (W : Wd) (Γ : Fc) (n : Nat) (body : List Stmt) (Q : Fl → Loc → Store → Prop) (X : Int → Prop) : Loc → Store → Prop := fun m2 S3 => WS W Γ n body m2 S3 Q X
inductive FInv (W : Wd) (Γ : Fc) (P : Option Nat → Led → Prop) (I : Nat → Loc → Store → Prop) (hd tl1 : Led) (N j : Nat) (s : Shared) : Prop
  | mk (k : Nat) (ld tl2 : Led) (m2 : Loc) (S2 : Store) (ej : j = N + 1 - k) (hk : k ≤ N) (p : P (some k) ld) (x : Ext tl1 tl2) (st : St W Γ (ld ++ hd) tl2 m2 S2 s) (i : I k m2 S2)
inductive KFor (W : Wd) (Γ : Fc) (n : Nat) (tgt : Expr) (body : List Stmt) (m : Loc) (Q : Fl → Loc → Store → Prop) (X : Int → Prop) (v : AV) (S1 : Store) : Prop
  | mk (items : List AV) (S0 : Store) (fin : Store → Store) (src : Src W Γ n tgt v items S1 S0 fin) (I : Nat → Loc → Store → Prop) (i0 : I 0 m S0)
    (turn : ∀ k av m1 S2, items[k]? = some av → I k m1 S2 → WA W Γ n tgt av m1 S2 (KBody W Γ n body (KTurn I k fin Q) X)) (out : ∀ m1 S2, I items.length m1 S2 → Q .nxt m1 (fin S2))
theorem s_for {tgt iter : Expr} {body : List Stmt} {pos : Pos} {Q : Fl → Loc → Store → Prop} {X : Int → Prop}
    (h : WE W Γ n iter m S (KFor W Γ n tgt body m Q X) X)
    (hb : Γ.blk = none := by kernel_rfl) (hs : ∀ env x, foldedSetIterable iter env x = pure x := by intros; kernel_rfl) : W1 W Γ n (.For tgt iter body [] pos) m S Q X := by
  intro hW hΓ B hd tl s hB hst
  have loopX : ∀ (e : Value) (s' : Shared), XS W Γ X e s' → notedBy (model W.prog W.w) B Γ.ev (fun e s' => cameBackBy (model W.prog W.w) B Γ.ev (XS W Γ X) e s') e s' := by
    rintro e s' ⟨m', line, hX, a, rfl, hsh, ⟨g₂, mc₂, tl₂, F₂, lr, u₂⟩, fl⟩
    rw [Fc.ev_env hb]
    exact flies_loop hB.frames rfl fl fun h' fl' u' => ⟨m', line, hX, a, rfl, ⟨hsh.gens, hsh.drawn, hsh.os⟩, ⟨g₂, mc₂, tl₂, F₂, lr, u₂.trans u'⟩, fl'⟩
  refine wpAny_For (wpAny_mono (h hW hΓ B hd tl s hB hst) ?_ fun _ _ e => e.toS) (hs _)
  rintro v s1 ⟨av, S1, tl1, x1, st1, r1, items, S0, fin, src, I, i0, turn, last⟩
  refine src B hd tl1 m s1 v _ _ hW hΓ hB st1 r1 fun it tl0 P ld s2 T p0 x0 st2 => ?_
  refine codeAny_forLoop_any (FInv W Γ P I hd tl1 items.length) ?_ (items.length + 1) ⟨0, ld, tl1, m, S0, rfl, Nat.zero_le _, p0, Ext.refl _, st2, i0⟩
  rintro j s3 ⟨k, ld3, tl3, m3, S3, rfl, hk, p3, x3, st3, i3⟩
  by_cases hlt : k < items.length
  · refine T.next k ld3 B hd tl3 m3 S3 s3 _ _ _ _ hW hΓ p3 (x0.trans x3) hB st3 items[k] (List.getElem?_eq_getElem hlt) (fun v' s4 h4 => h4) ?_
    · intro v' ld5 tl5 s5 p5 x5 st5 r5
      refine wpAny_mono (turn k items[k] m3 S3 (List.getElem?_eq_getElem hlt) i3 hW hΓ B (ld5 ++ hd) tl5 s5 v' _ hB st5 r5) ?_ fun _ _ e => e
      rintro _ s6 ⟨m6, S6, tl6, x6, st6, q6⟩
      refine wpAny_mono (q6 hW hΓ B (ld5 ++ hd) tl6 s6 hB st6) ?_ loopX
      rintro f s7 ⟨fl, m7, S7, tl7, x7, st7, rf, q7⟩
      have x57 : Ext tl1 tl7 := ((x3.trans x5).trans x6).trans x7
      cases rf with
      | nxt => exact ⟨items.length + 1 - (k + 1), by omega, k + 1, ld5, tl7, m7, S7, rfl, hlt, p5, x57, st7, q7⟩
      | cnt => exact ⟨items.length + 1 - (k + 1), by omega, k + 1, ld5, tl7, m7, S7, rfl, hlt, p5, x57, st7, q7⟩
      | brk => exact ⟨.nxt, m7, _, tl7, x1.trans x57, (T.leave _ ld5 hd tl7 m7 S7 s7 p5 (x0.trans x57) st7).1, .nxt, q7⟩
      | ret v av rv => exact ⟨.ret av, m7, _, tl7, x1.trans x57, (T.leave _ ld5 hd tl7 m7 S7 s7 p5 (x0.trans x57) st7).1, .ret _ _ rv, q7⟩
  · have hkk : items.length = k := by omega
    refine T.done k ld3 B hd tl3 m3 S3 s3 _ _ hW hΓ p3 (x0.trans x3) hB st3 hkk fun ld5 s5 p5 st5 => ?_
    subst hkk
    exact wpAny_execs_nil ⟨.nxt, m3, _, tl3, x1.trans x3, (T.leave _ ld5 hd tl3 m3 S3 s5 p5 (x0.trans x3) st5).1, .nxt, last _ _ i3⟩
end
end
section
section
variable {W : Wd} {Γ : Fc} {n : Nat} {m : Loc} {S : Store} {tgt : Expr}
theorem StC.changed {hd tl : Led} {mc : Str → Option Value} {cs : Led} {s : Shared} {I : Addr} {oI oI' : Obj} (c : StC W Γ ((I, oI) :: hd) tl m S mc cs s) {h' : Heap} (tk : Nat)
    (k : ∀ b o, b ≠ I → s.heap.get? b = some o → h'.get? b = some o) (hI : h'.get? I = some oI') : StC W Γ ((I, oI') :: hd) tl m S mc cs { s with heap := h', toks := tk } := by
  have hm := c.nw (I, oI) (List.mem_append_left _ (List.mem_append_left _ (.head _)))
  have nd : I ∉ (hd ++ tl ++ cs).map (·.1) ∧ ((hd ++ tl ++ cs).map (·.1)).Nodup := by
    have := c.nd
    rw [List.cons_append, List.cons_append, List.map_cons, List.nodup_cons] at this
    exact this
  refine ⟨⟨?_, fun b o e => k b o (fun q => ?_) (c.fr.keep b o e), c.fr.above⟩, fun p hp => ?_, ?_, c.lr, c.sr, c.sh.gens, c.sh.drawn, c.sh.os⟩
  · obtain ⟨o, es, ep, e, r⟩ := c.fr.ns
    exact ⟨o, es, ep, k _ _ hm.2.1.symm e, r⟩
  · rw [q] at e
    have h2 : Γ.g.get? I = none := hm.2.2
    rw [h2] at e; cases e
  · rw [List.cons_append, List.cons_append] at hp
    rcases List.mem_cons.mp hp with rfl | hp
    · exact ⟨hI, hm.2⟩
    · have h1 := c.nw p (by rw [List.cons_append, List.cons_append]; exact .tail _ hp)
      exact ⟨k _ _ (fun q => nd.1 (q ▸ List.mem_map.mpr ⟨p, hp, rfl⟩)) h1.1, h1.2⟩
  · rw [List.cons_append, List.cons_append, List.map_cons, List.nodup_cons]
    exact nd
theorem StC.dropped {hd tl : Led} {mc : Str → Option Value} {cs : Led} {s : Shared} {I : Addr} {oI : Obj} (c : StC W Γ ((I, oI) :: hd) tl m S mc cs s) {h' : Heap} (tk : Nat)
    (k : ∀ b o, b ≠ I → s.heap.get? b = some o → h'.get? b = some o) : StC W Γ hd tl m S mc cs { s with heap := h', toks := tk } := by
  have hm := c.nw (I, oI) (List.mem_append_left _ (List.mem_append_left _ (.head _)))
  have nd : I ∉ (hd ++ tl ++ cs).map (·.1) ∧ ((hd ++ tl ++ cs).map (·.1)).Nodup := by
    have := c.nd
    rw [List.cons_append, List.cons_append, List.map_cons, List.nodup_cons] at this
    exact this
  refine ⟨⟨?_, fun b o e => k b o (fun q => ?_) (c.fr.keep b o e), c.fr.above⟩, fun p hp => ?_, nd.2, c.lr, c.sr, c.sh.gens, c.sh.drawn, c.sh.os⟩
  · obtain ⟨o, es, ep, e, r⟩ := c.fr.ns
    exact ⟨o, es, ep, k _ _ hm.2.1.symm e, r⟩
  · rw [q] at e
    have h2 : Γ.g.get? I = none := hm.2.2
    rw [h2] at e; cases e
  · have h1 := c.nw p (by rw [List.cons_append, List.cons_append]; exact .tail _ hp)
    exact ⟨k _ _ (fun q => nd.1 (q ▸ List.mem_map.mpr ⟨p, hp, rfl⟩)) h1.1, h1.2⟩
noncomputable def PW (W : Wd) (items : List AV) (I : Addr) (ex tl0 : Led) (Stt : Nat → Heap → Prop) (j : Option Nat) (ld : Led) : Prop := match j with
  | none => ld = ex
  | some k => ∃ oI, ld = (I, oI) :: ex ∧ ∃ h0 : Heap, Stt k h0 ∧ h0.get? I = some oI ∧ (∀ p ∈ ex ++ tl0, h0.get? p.1 = some p.2) ∧ W.b.StaysIn h0
theorem Itr.of_walks {items : List AV} {I : Addr} {fp : List Addr} {tl0 ex : Led} {fin : Store → Store} {Pv : Nat → Value → Prop} {Stt : Nat → Heap → Prop}
    (Wk : ∀ B : Around, B.handled = none → Walks W.prog W.w B I fp [I] items.length Pv Stt)
    (hP : ∀ k v av, items[k]? = some av → Pv k v → VR W.b tl0 v av)
    (hfp : ∀ b ∈ fp, b = I ∨ (∃ o, (b, o) ∈ ex ++ tl0) ∨ ∃ o, W.b.get? b = some o)
    (live : ∀ k h, Stt k h → ∃ o, h.get? I = some o)
    (go : ∀ k av v B s (Q : Unit → Shared → Prop) E, items[k]? = some av → VR W.b tl0 v av → Stt (k + 1) s.heap → Q () s → wpAny (model W.prog W.w) B (letOwnedTupleGo tgt (.ref I) v) Q E s)
    (leave : ∀ hd tl m S s, Ext tl0 tl → St W Γ (ex ++ hd) tl m S s → St W Γ hd tl m (fin S) s ∧ ∀ x ao, S x = some ao → fin S x = some ao) : Itr W Γ n tgt (.ref I) items tl0 fin (PW W items I ex tl0 Stt) := by
  have at_ : ∀ {k : Nat} {oI : Obj} {hd tl : Led} {m : Loc} {S : Store} {s : Shared} {mc : Str → Option Value} {cs : Led} {B : Around}, B.handled = none → Γ.Ok W → Ext tl0 tl → StC W Γ ((I, oI) :: ex ++ hd) tl m S mc cs s →
      (∃ h0 : Heap, Stt k h0 ∧ h0.get? I = some oI ∧ (∀ p ∈ ex ++ tl0, h0.get? p.1 = some p.2) ∧ W.b.StaysIn h0) → Stt k s.heap := by
    intro k oI hd tl m S s mc cs B hB hΓ x c ⟨h0, st, e1, e2, e3⟩
    refine (Wk B hB).frame k h0 s.heap st fun b hb o ho => ?_
    rcases hfp b hb with rfl | ⟨o', ho'⟩ | ⟨o', ho'⟩
    · rw [e1] at ho; cases ho
      exact (c.nw (b, oI) (List.mem_append_left _ (List.mem_append_left _ (.head _)))).1
    · have eo : o' = o := by
        have := e2 _ ho'
        rw [show h0.get? b = some o from ho] at this
        exact (Option.some.inj this).symm
      rw [← eo]
      refine (c.nw (b, o') ?_).1
      rcases List.mem_append.mp ho' with q | q
      · exact List.mem_append_left _ (List.mem_append_left _ (.tail _ (List.mem_append_left _ q)))
      · exact List.mem_append_left _ (List.mem_append_right _ (x _ q))
    · have eo : o' = o := by
        have := e3 b o' ho'
        rw [ho] at this
        exact (Option.some.inj this).symm
      rw [← eo]
      exact c.base hΓ b o' ho'
  have fromS : ∀ {k : Nat} {hd tl : Led} {m : Loc} {S : Store} {s : Shared} {mc : Str → Option Value} {cs : Led} {oI : Obj}, Γ.Ok W → Ext tl0 tl → StC W Γ ((I, oI) :: ex ++ hd) tl m S mc cs s → Stt k s.heap → PW W items I ex tl0 Stt (some k) ((I, oI) :: ex) := by
    intro k hd tl m S s mc cs oI hΓ x c st
    refine ⟨oI, rfl, s.heap, st, (c.nw (I, oI) (List.mem_append_left _ (List.mem_append_left _ (.head _)))).1, fun p hp => (c.nw p ?_).1, c.base hΓ⟩
    rcases List.mem_append.mp hp with q | q
    · exact List.mem_append_left _ (List.mem_append_left _ (.tail _ (List.mem_append_left _ q)))
    · exact List.mem_append_left _ (List.mem_append_right _ (x _ q))
  constructor
  · intro k ld B hd tl m S s Q R E E' hW hΓ p x hB st av hav hR h
    obtain ⟨oI, rfl, p⟩ := p
    obtain ⟨mc, cs, c⟩ := st
    have hlt := (List.getElem?_eq_some_iff.mp hav).1
    refine (Wk B hB.handled).item k s _ _ hlt (at_ hB.handled hΓ x c p) fun v h' tk pv st' k' => hR v _ ?_
    have rv := hP k v av hav pv
    obtain ⟨oI', hI'⟩ := live _ _ st'
    have c' := StC.changed c tk (fun b o ne e => k' b o (by simpa using ne) e) hI'
    exact go k av v B _ _ E' hav rv st' (h v _ tl _ (fromS hΓ x c' st') (Ext.refl _) ⟨mc, cs, c'⟩ (rv.ext x))
  · intro k ld B hd tl m S s Q E hW hΓ p x hB st hk h
    obtain ⟨oI, rfl, p⟩ := p
    obtain ⟨mc, cs, c⟩ := st
    subst hk
    have st0 := at_ hB.handled hΓ x c p
    refine (Wk B hB.handled).done s _ _ st0 fun h' tk k' => ?_
    exact h ex _ rfl ⟨mc, cs, StC.dropped c tk (fun b o ne e => k' b o (by simpa using ne) e)⟩
  · intro k ld B hd tl m S s Q E hW hΓ p x hB st h
    obtain ⟨oI, rfl, p⟩ := p
    obtain ⟨mc, cs, c⟩ := st
    exact (Wk B hB.handled).self k s _ _ (at_ hB.handled hΓ x c p) h
  · intro j ld hd tl m S s p x st
    cases j with
    | none =>
      cases p
      exact leave hd tl m S s x st
    | some k =>
      obtain ⟨oI, rfl, _⟩ := p
      obtain ⟨mc, cs, c⟩ := st
      exact leave hd tl m S s x ⟨mc, cs, StC.dropped c s.toks fun _ _ _ e => e⟩
noncomputable def del (S : Store) (l : Addr) : Store := fun b => if b = l then none else S b
theorem StC.hide {hd tl : Led} {mc : Str → Option Value} {cs : Led} {s : Shared} (c : StC W Γ hd tl m S mc cs s) {l : Addr} {o : Obj} (hm : (l, o) ∈ cs) : ∃ cs', StC W Γ ((l, o) :: hd) tl m (del S l) mc cs' s := by
  obtain ⟨c1, c2, rfl⟩ := List.append_of_mem hm
  have pm : List.Perm (hd ++ tl ++ (c1 ++ (l, o) :: c2)) ((l, o) :: hd ++ tl ++ (c1 ++ c2)) := by
    have h1 : List.Perm (c1 ++ (l, o) :: c2) ((l, o) :: (c1 ++ c2)) := List.perm_middle
    have h2 := h1.append_left (hd ++ tl)
    exact h2.trans (List.perm_middle)
  refine ⟨c1 ++ c2, c.fr, fun p hp => c.nw p (pm.mem_iff.mpr hp), (pm.map _).nodup_iff.mp c.nd, c.lr, fun a ao e => ?_, c.sh⟩
  unfold del at e
  split at e
  · cases e
  · rename_i ne
    obtain ⟨o', ho', r⟩ := c.sr a ao e
    refine ⟨o', ?_, r⟩
    rcases List.mem_append.mp ho' with q | q
    · exact List.mem_append_left _ q
    · rcases List.mem_cons.mp q with q | q
      · cases q; exact absurd rfl ne
      · exact List.mem_append_right _ q
theorem St.unhide {hd tl : Led} {s : Shared} {l : Addr} {o : Obj} {ao : AO} (h : St W Γ ((l, o) :: hd) tl m S s) (r : OR W.b tl W.w.params o ao) : St W Γ hd tl m (upd S l ao) s := by
  obtain ⟨mc, cs, c⟩ := h
  have pm : List.Perm (hd ++ tl ++ (l, o) :: cs) ((l, o) :: hd ++ tl ++ cs) := List.perm_middle
  refine ⟨mc, (l, o) :: cs, c.fr, fun p hp => c.nw p (pm.mem_iff.mp hp), (pm.map _).nodup_iff.mpr c.nd, c.lr, fun a ao' e => ?_, c.sh⟩
  by_cases q : a = l
  · subst q; rw [upd_same] at e; cases e; exact ⟨o, .head _, r⟩
  · rw [upd_ne q] at e
    obtain ⟨o', ho', r'⟩ := c.sr a ao' e
    exact ⟨o', .tail _ ho', r'⟩
theorem go_tupleiter {prog : Program} {w : World} {B : Around} {E : Value → Shared → Prop} {s : Shared} {elts : List Expr} {x1 : Nat} {pos : Pos} {I l T : Addr} {i : Nat} {Q : Unit → Shared → Prop} (hit : s.heap.IsTupleIter I l i) (hQ : Q () s) :
    wpAny (model prog w) B (letOwnedTupleGo (.Tuple elts x1 pos) (.ref I) (.ref T)) Q E s := by
  obtain ⟨o, ho, hc, hd⟩ := hit
  unfold letOwnedTupleGo
  refine wpAny_bind (wpAny_load ho ?_)
  rw [hc, hd]
  show wpAny _ B (if (["enumerate", "zip", "dict_itemiterator", "dict_reverseitemiterator", "odict_iterator", "itertools.zip_longest", "itertools.pairwise"].contains "tuple_iterator" &&
      (#[.ref l, .int i 0] : Array Value)[0]? == some (rawInt T)) = true then _ else _) Q E s
  rw [if_neg (by
    intro h
    rw [show (["enumerate", "zip", "dict_itemiterator", "dict_reverseitemiterator", "odict_iterator", "itertools.zip_longest", "itertools.pairwise"].contains "tuple_iterator") = false from by decide, Bool.false_and] at h
    cases h)]
  exact wpAny_pure hQ
inductive TgtOk : Expr → List AV → Prop
  | name (x : Str) (p : Pos) (items : List AV) : TgtOk (.Name x p) items
  | tup (es : List Expr) (k : Nat) (p : Pos) (items : List AV) : (∀ av ∈ items, ∃ l, av = .tup l) → TgtOk (.Tuple es k p) items
theorem TgtOk.ref {b : Heap} {tl : Led} {es : List Expr} {k : Nat} {p : Pos} {items : List AV} (h : TgtOk (.Tuple es k p) items) {i : Nat} {av : AV} {v : Value} (hi : items[i]? = some av) (r : VR b tl v av) : ∃ T, v = .ref T := by
  cases h with
  | tup _ _ _ _ h =>
    obtain ⟨l, rfl⟩ := h av (List.mem_of_getElem? hi)
    cases r
    exact ⟨_, rfl⟩
theorem St.notHid {hd tl : Led} {s : Shared} {l : Addr} {o : Obj} (h : St W Γ ((l, o) :: hd) tl m S s) {x : Addr} {ao : AO} (e : S x = some ao) : x ≠ l := by
  obtain ⟨mc, cs, c⟩ := h
  obtain ⟨o', ho, _⟩ := c.sr x ao e
  have nd := c.nd
  rw [List.cons_append, List.cons_append, List.map_cons, List.nodup_cons] at nd
  rintro rfl
  exact nd.1 (List.mem_map.mpr ⟨_, List.mem_append_right _ ho, rfl⟩)
theorem StC.pushI {hd tl : Led} {mc : Str → Option Value} {cs : Led} {s : Shared} (c : StC W Γ hd tl m S mc cs s) (oI : Obj) (tk : Nat) (hfree : oI.isFreed = false := by rfl) : StC W Γ ((s.heap.objs.size, oI) :: hd) tl m S mc cs { s with heap := s.heap.push oI, toks := tk } := by
  refine ⟨c.fr.push oI, c.nw.push c.fr oI hfree, ?_, c.lr, c.sr, c.sh.gens, c.sh.drawn, c.sh.os⟩
  rw [List.cons_append, List.cons_append, List.map_cons, List.nodup_cons]
  refine ⟨fun q => ?_, c.nd⟩
  obtain ⟨p, hp, e⟩ := List.mem_map.mp q
  exact absurd (Heap.lt_size (c.nw p hp).1) (by rw [e]; exact Nat.lt_irrefl _)
theorem src_tup {items : List AV} (ht : TgtOk tgt items) : Src W Γ n tgt (.tup items) items S S id := by
  intro B hd tl m s v Q E hW hΓ hB st rv h
  apply VR.on_tup rv; intro a vs t r
  obtain ⟨mc, cs, c⟩ := id st
  obtain ⟨o, ho, hc, k', hd'⟩ := c.tup hΓ t
  have hlt := Heap.lt_size ho
  refine wpAny_pyIter_tuple (items := vs.toArray) ⟨o, ho, hc, k', hd'⟩ ?_
  let oI : Obj := { cls := .type "tuple_iterator", data := .fields #[.ref a, .int 0 0] }
  let I := s.heap.objs.size
  have hne : a ≠ I := Nat.ne_of_lt hlt
  have T : Itr W Γ n tgt (.ref I) items tl id (PW W items I [] tl (fun i h => h.IsTupleIter I a i ∧ h.IsTuple a vs.toArray)) := by
    refine Itr.of_walks (fp := [I, a]) (Pv := fun i v => vs.toArray[i]? = some v) (fun B hB => ?_) (fun k v av e1 e2 => ?_) (fun b hb => ?_) (fun k h ⟨⟨o, ho, _⟩, _⟩ => ⟨o, ho⟩) (fun k av v B s Q E e1 rv st q => ?_) fun hd tl m S s x st => ⟨st, fun _ _ e => e⟩
    · have := Walks.tuple (prog := W.prog) (w := W.w) hB I a hne vs.toArray
      rw [List.size_toArray, r.length] at this
      exact this
    · obtain ⟨v', hv', rv'⟩ := r.get e1
      have e3 : vs[k]? = some v := by simpa using e2
      rw [hv'] at e3; cases e3; exact rv'
    · rcases List.mem_cons.mp hb with rfl | hb
      · exact .inl rfl
      · rw [List.mem_singleton] at hb; subst hb
        rcases t with ⟨o, ho, _⟩ | ⟨o, n', hm, _⟩
        · exact .inr (.inr ⟨o, ho⟩)
        · exact .inr (.inl ⟨o, by simpa using hm⟩)
    · cases ht with
      | name x p => exact wpAny_pure q
      | tup es k p _ hh =>
        obtain ⟨T, rfl⟩ := TgtOk.ref (.tup es k p _ hh) e1 rv
        exact go_tupleiter st.1 q
  refine h (.ref I) tl _ [(I, oI)] _ T ⟨oI, rfl, (s.heap.push oI), ⟨⟨oI, Heap.get?_push_size _ rfl, rfl, rfl⟩, ⟨o, Heap.get?_push_of_some _ ho, hc, k', hd'⟩⟩, Heap.get?_push_size _ rfl, fun p hp => ?_, fun b o e => Heap.get?_push_of_some _ (c.base hΓ b o e)⟩ (Ext.refl _) ⟨mc, cs, c.pushI oI s.toks⟩
  exact Heap.get?_push_of_some _ (c.nw p (List.mem_append_left _ (List.mem_append_right _ (by simpa using hp)))).1
theorem src_lst {l : Addr} {items : List AV} (e : S l = some (.lst items)) (ht : TgtOk tgt items) : Src W Γ n tgt (.ref l) items S (del S l) (fun S' => upd S' l (.lst items)) := by
  intro B hd tl m s v Q E hW hΓ hB st rv h
  apply VR.on_ref rv
  obtain ⟨mc, cs, c⟩ := id st
  obtain ⟨vs, kk, hm, r, hl⟩ := c.lst e
  obtain ⟨cs', c'⟩ := c.hide hm
  let ol : Obj := listOf vs.toArray kk
  have ho : s.heap.get? l = some ol := (c.nw _ (List.mem_append_right _ hm)).1
  have hlt := Heap.lt_size ho
  refine wpAny_pyIter_list hl ?_
  let oI : Obj := { cls := .type "list_iterator", data := .fields #[.ref l, .int 0 0] }
  let I := s.heap.objs.size
  have hne : l ≠ I := Nat.ne_of_lt hlt
  have T : Itr W Γ n tgt (.ref I) items tl (fun S' => upd S' l (.lst items)) (PW W items I [(l, ol)] tl (fun i h => h.IsListIter I l i ∧ h.IsList l vs.toArray)) := by
    refine Itr.of_walks (fp := [I, l]) (Pv := fun i v => vs.toArray[i]? = some v) (fun B hB => ?_) (fun k v av e1 e2 => ?_) (fun b hb => ?_) (fun k h ⟨⟨o, ho, _⟩, _⟩ => ⟨o, ho⟩) (fun k av v B s Q E e1 rv st q => ?_) fun hd tl' m S s x st => ?_
    · have := Walks.list (prog := W.prog) (w := W.w) hB I l hne vs.toArray
      rw [List.size_toArray, r.length] at this
      exact this
    · obtain ⟨v', hv', rv'⟩ := r.get e1
      have e3 : vs[k]? = some v := by simpa using e2
      rw [hv'] at e3; cases e3; exact rv'
    · rcases List.mem_cons.mp hb with rfl | hb
      · exact .inl rfl
      · rw [List.mem_singleton] at hb; subst hb
        exact .inr (.inl ⟨ol, .head _⟩)
    · cases ht with
      | name x p => exact wpAny_pure q
      | tup es k p _ hh =>
        obtain ⟨T, rfl⟩ := TgtOk.ref (.tup es k p _ hh) e1 rv
        exact wpAny_letOwnedTupleGo_listiter st.1 q
    · exact ⟨St.unhide st (.lst vs kk _ (r.ext x)), fun y ao e => by rw [upd_ne (St.notHid st e)]; exact e⟩
  refine h (.ref I) tl _ [(I, oI), (l, ol)] _ T ⟨oI, rfl, (s.heap.push oI), ⟨⟨oI, Heap.get?_push_size _ rfl, rfl, rfl⟩, hl.push _⟩, Heap.get?_push_size _ rfl, fun p hp => ?_, fun b o e => Heap.get?_push_of_some _ (c.base hΓ b o e)⟩ (Ext.refl _) ⟨mc, cs', c'.pushI oI s.toks⟩
  rcases List.mem_append.mp hp with q | q
  · rw [List.mem_singleton] at q; subst q
    exact Heap.get?_push_of_some _ ho
  · exact Heap.get?_push_of_some _ (c.nw p (List.mem_append_left _ (List.mem_append_right _ q))).1
theorem src_str {x : Str} {p : Pos} {l : List Nat} : Src W Γ n (.Name x p) (.str l) (l.map fun c => .str [c]) S S id := by
  intro B hd tl m s v Q E hW hΓ hB st rv h
  apply VR.on_str rv; intro s0 t hx
  obtain ⟨mc, cs, c⟩ := id st
  let I := s.heap.objs.size
  have hsz : s0.cps.size = (l.map fun c => AV.str [c]).length := by rw [List.length_map, ← hx]; simp
  have key : ∀ (ty : String) (_ : ∀ B : Around, B.handled = none → Walks W.prog W.w B I [I] [I] s0.cps.size (SignAt s0) (fun i h => h.IsStrIter I ty s0 t i)),
      Q (.ref I) { s with heap := s.heap.push { cls := .type ty, data := .fields #[.str s0 t, .int 0 0] } } := fun ty Wk => by
    let oI : Obj := { cls := .type ty, data := .fields #[.str s0 t, .int 0 0] }
    have T : Itr W Γ n (.Name x p) (.ref I) (l.map fun c => AV.str [c]) tl id (PW W (l.map fun c => AV.str [c]) I [] tl (fun i h => h.IsStrIter I ty s0 t i)) := by
      refine Itr.of_walks (fp := [I]) (Pv := SignAt s0) (fun B hB => ?_) (fun k v av e1 e2 => ?_) (fun b hb => .inl (by simpa using hb)) (fun k h ⟨o, ho, _⟩ => ⟨o, ho⟩) (fun k av v B s Q E e1 rv st q => wpAny_pure q) fun hd tl m S s x st => ⟨st, fun _ _ e => e⟩
      · have W0 := Wk B hB
        rw [hsz] at W0
        exact W0
      · obtain ⟨c, u, hc, rfl⟩ := e2
        rw [List.getElem?_map] at e1
        obtain ⟨c', hc', e⟩ := Option.map_eq_some_iff.mp e1
        have : s0.cps.toList[k]? = some c := by simpa using hc
        rw [hx, hc'] at this
        cases this; subst e
        exact .str _ _ _ rfl
    refine h (.ref I) tl _ [(I, oI)] _ T ⟨oI, rfl, (s.heap.push oI), ⟨oI, Heap.get?_push_size _ rfl, rfl, rfl⟩, Heap.get?_push_size _ rfl, fun p hp => ?_, fun b o e => Heap.get?_push_of_some _ (c.base hΓ b o e)⟩ (Ext.refl _) ⟨mc, cs, c.pushI oI s.toks⟩
    exact Heap.get?_push_of_some _ (c.nw p (List.mem_append_left _ (List.mem_append_right _ (by simpa using hp)))).1
  cases ha : s0.cps.all (· < 128) with
  | false => exact wpAny_pyIter_wide ha (key "str_iterator" fun B hB => Walks.strWide hB _ s0 t)
  | true => exact wpAny_pyIter_ascii ha (key "str_ascii_iterator" fun B hB => Walks.strAscii hB _ s0 t)
noncomputable abbrev rngObj (k : Int) (t u v : Tok) : Obj := { cls := .type "range", data := .fields #[.int 0 t, .int k u, .int 1 v] }
theorem f_range {k : Nat} {X : Int → Prop} {Q : AV → Store → Prop} (q : ∀ r t u v, S r = none → Q (.ref r) (upd S r (.raw (rngObj k t u v)))) : WF W Γ n (.type "range") [.int k] m S Q X := fun _ _ _ _ _ s0 _ _ st r => by
  apply VRs.on1 r; intro v rv
  cases rv with
  | int _ u =>
  obtain ⟨mc, cs, c⟩ := id st
  refine call_range_1 ?_
  obtain ⟨c2, hn⟩ := c.new (tk := s0.toks + 1 + 1) (o := rngObj k s0.toks u (s0.toks + 1)) (c.fr.push _) (c.nw.push c.fr _) (fun p hp => Heap.lt_size (c.nw p hp).1) (.raw _)
  exact ⟨.ref _, _, _, Ext.refl _, ⟨_, _, c2⟩, .ref _, q _ _ _ _ hn⟩
theorem src_rng {x : Str} {p : Pos} {r : Addr} {k : Nat} {t u v : Tok} (e : S r = some (.raw (rngObj k t u v))) (hk : k ≤ 100000) : Src W Γ n (.Name x p) (.ref r) ((List.range k).map fun (i : Nat) => .int (i : Int)) S S id := by
  intro B hd tl m s v Q E hW hΓ hB st rv h
  apply VR.on_ref rv
  obtain ⟨mc, cs, c⟩ := id st
  obtain ⟨o, hm, ro⟩ := c.obj e
  cases ro
  let I := s.heap.objs.size
  have hr : IsRange s.heap r 0 k 1 t u _ := (c.nw _ (List.mem_append_right _ hm)).1
  have hrs : Builtin.Range.rangeSize 0 (k : Int) 1 = (k : Int) := by
    rw [rangeSize_one]
    split <;> lia
  refine wpAny_pyIter_range hr (small_one (by decide) (by decide) (by lia) (by lia)) ?_
  rw [hrs]
  let oI : Obj := { cls := .type "range_iterator", data := .fields #[rawInt 0, rawInt (k : Int), rawInt 1] }
  have hlen : ((List.range k).map fun (i : Nat) => AV.int (i : Int)).length = k := by simp
  have T : Itr W Γ n (.Name x p) (.ref I) ((List.range k).map fun (i : Nat) => AV.int (i : Int)) tl id (PW W ((List.range k).map fun (i : Nat) => AV.int (i : Int)) I [] tl (fun i h => IsRangeIter h I (0 + (i : Nat) * 1) ((k : Int) - (i : Nat)) 1)) := by
    refine Itr.of_walks (fp := [I]) (Pv := fun i v => ∃ t, v = .int (0 + i * 1) t) (fun B hB => ?_) (fun j v av e1 e2 => ?_) (fun b hb => .inl (by simpa using hb)) (fun k h ho => ⟨_, ho⟩) (fun k av v B s Q E e1 rv st q => wpAny_pure q) fun hd tl m S s x st => ⟨st, fun _ _ e => e⟩
    · have W0 := Walks.range (prog := W.prog) (w := W.w) hB I 0 1 k
      rw [← hlen] at W0
      simpa only [hlen] using W0
    · obtain ⟨t, rfl⟩ := e2
      rw [List.getElem?_map] at e1
      obtain ⟨c', hc', e⟩ := Option.map_eq_some_iff.mp e1
      have : c' = j := by
        rw [List.getElem?_range (by have := (List.getElem?_eq_some_iff.mp hc').1; simpa using this)] at hc'
        exact (Option.some.inj hc').symm
      subst e this
      have e3 : (0 : Int) + c' * 1 = c' := by lia
      rw [e3]
      exact .int _ _
  refine h (.ref I) tl _ [(I, oI)] _ T ⟨oI, rfl, (s.heap.push oI), ?_, Heap.get?_push_size _ rfl, fun p hp => ?_, fun b o e => Heap.get?_push_of_some _ (c.base hΓ b o e)⟩ (Ext.refl _) ⟨mc, cs, c.pushI oI s.toks⟩
  · have := Heap.get?_push_size s.heap (o := oI) rfl
    simpa using this
  · exact Heap.get?_push_of_some _ (c.nw p (List.mem_append_left _ (List.mem_append_right _ (by simpa using hp)))).1
end
end
section
theorem codeAny_compLoop_any {prog : Program} {w : World} {A : Around} {R : Result → Shared → Prop} {s : Shared} {elt target iter : Expr} {ifs : List Expr} {scope : Scope} {pos : Pos} {it acc : Value} {env : Env} (I : Nat → Shared → Prop)
    (turn : ∀ n s, I n s → wpAny (model prog w) A (pyNext it) (fun r s₁ => match r with
      | none => R (.ok .next) s₁
      | some v => wpAny (model prog w) A (letOwnedTupleGo target it v) (fun _ s₁' => wpAny (model prog w) A (assign target env v) (fun _ s₂ =>
          wpAny (model prog w) A (forIn ifs true fun c r => if r = true then do let ok ← isTrue c env (eval c env); pure (ForInStep.yield ok) else pure (ForInStep.yield r)) (fun ok s₃ =>
            if ok = true then wpAny (model prog w) A (eval elt env) (fun x s₄ =>
              wpAny (model prog w) A (call (.builtin "list.append") [acc, x]) (fun _ s₅ => ∃ m, m < n ∧ I m s₅) (notedBy (model prog w) A env fun e s' => R (.error e) s') s₄) (notedBy (model prog w) A env fun e s' => R (.error e) s') s₃
            else ∃ m, m < n ∧ I m s₃) (notedBy (model prog w) A env fun e s' => R (.error e) s') s₂) (notedBy (model prog w) A env fun e s' => R (.error e) s') s₁') (notedBy (model prog w) A env fun e s' => R (.error e) s') s₁) (notedBy (model prog w) A env fun e s' => R (.error e) s') s)
    (n : Nat) (h : I n s) : codeAny (model prog w) A (.compLoop (.ListComp elt [⟨target, iter, ifs, 0⟩] scope pos) 0 it acc env) R s := by
  refine codeAny_loop rfl I (fun n s hI => ?_) n h
  show wpAny _ A ((compTurn (.ListComp elt [⟨target, iter, ifs, 0⟩] scope pos) 0 it acc env).onRaise (fun x => do noteFrame x env; theTreesLotGoes x)) _ _ s
  refine wpAny_noted ?_
  rw [compTurn_list]
  refine wpAny_bind (wpAny_standAt (wpAny_bind (wpAny_mono (turn n s hI) (fun r s₁ h₁ => ?_) fun _ _ h' => h')))
  cases r with
  | none => exact wpAny_pure h₁
  | some v =>
    refine wpAny_bind (wpAny_mono h₁ (fun _ s₁' h₁' => ?_) fun _ _ h' => h')
    refine wpAny_bind (wpAny_mono h₁' (fun _ s₂ h₂ => wpAny_bind (wpAny_mono h₂ (fun ok s₃ h₃ => ?_) fun _ _ h' => h')) fun _ _ h' => h')
    cases ok with
    | false => exact wpAny_pure ⟨rfl, h₃⟩
    | true =>
      exact wpAny_bind (wpAny_bind (wpAny_mono h₃ (fun x s₄ h₄ => wpAny_bind (wpAny_mono h₄ (fun _ s₅ h₅ => wpAny_pure (wpAny_pure ⟨rfl, h₅⟩)) fun _ _ h' => h')) fun _ _ h' => h'))
noncomputable def Fc.inBlk (Γ : Fc) (b : Blk) : Fc := { Γ with blk := some b }
theorem St.blk {W : Wd} {Γ : Fc} {b : Blk} {hd tl : Led} {m : Loc} {S : Store} {s : Shared} : St W (Γ.inBlk b) hd tl m S s ↔ St W Γ hd tl m S s :=
  ⟨fun ⟨mc, cs, c⟩ => ⟨mc, cs, c.fr, c.nw, c.nd, c.lr, c.sr, c.sh⟩, fun ⟨mc, cs, c⟩ => ⟨mc, cs, c.fr, c.nw, c.nd, c.lr, c.sr, c.sh⟩⟩
theorem Fc.Ok.blk {W : Wd} {Γ : Fc} {b : Blk} (h : Γ.Ok W) : (Γ.inBlk b).Ok W := ⟨h.kind, h.below, h.nd, h.loc, h.dbg⟩
theorem AOk.blk {Γ : Fc} {b : Blk} {n : Nat} {B : Around} (h : AOk Γ n B) : AOk (Γ.inBlk b) n B := ⟨h.frames, h.handled, h.depth, h.units⟩
section
variable {W : Wd} {Γ : Fc} {n : Nat} {m : Loc} {S : Store}
inductive IfsR (W : Wd) (Γ : Fc) (n : Nat) (m : Loc) (S : Store) : List Expr → (Bool → Store → Prop) → Prop
  | none (Q : Bool → Store → Prop) : Q true S → IfsR W Γ n m S [] Q
  | one (c : Expr) (Q : Bool → Store → Prop) : WT W Γ n c m S Q (fun _ => False) → IfsR W Γ n m S [c] Q
theorem St.weakNs {hd tl : Led} {s : Shared} {C : Addr} {f : List (Str × AV)} (h : St W Γ hd tl m S s) (e : S C = some (.ns f)) : St W Γ hd tl m (upd S C (.ns [])) s := by
  obtain ⟨mc, cs, c⟩ := h
  refine ⟨mc, cs, c.fr, c.nw, c.nd, c.lr, fun a ao e' => ?_, c.sh⟩
  by_cases q : a = C
  · subst q; rw [upd_same] at e'; cases e'
    obtain ⟨o, ho, r⟩ := c.sr a _ e
    cases r with
    | ns _ es ep _ h1 h2 h3 => exact ⟨o, ho, .ns _ es ep _ h1 h2 fun _ _ h => nomatch h⟩
  · rw [upd_ne q] at e'; exact c.sr a ao e'
noncomputable abbrev KElt (W : Wd) (Γ : Fc) (n : Nat) (elt : Expr) (m : Loc) (scope : Scope) (cl : List (Str × Addr)) (C D : Addr) (I : Nat → List AV → Store → Prop) (k : Nat) (acc : List AV) : Bool → Store → Prop := fun c S4 => if c = true then WE W (Γ.inBlk ⟨scope, cl, C⟩) n elt m S4 (fun a S5 => S5 D = some (.lst acc) ∧ (∃ f, S5 C = some (.ns f)) ∧ I (k + 1) (acc ++ [a]) (upd (upd S5 D (.lst (acc ++ [a]))) C (.ns []))) (fun _ => False)
          else S4 D = some (.lst acc) ∧ (∃ f, S4 C = some (.ns f)) ∧ I (k + 1) acc (upd S4 C (.ns []))
noncomputable abbrev KComp (W : Wd) (Γ : Fc) (n : Nat) (elt tgt : Expr) (ifs : List Expr) (m : Loc) (scope : Scope) (cl : List (Str × Addr)) (QD : Addr → Store → Prop) : AV → Store → Prop := fun v S1 => ∃ items S0 fin, Src W Γ n tgt v items S1 S0 fin ∧ items.length ≤ 10000 ∧ ∀ C D, C ≠ D → S0 C = none → S0 D = none → ∃ I : Nat → List AV → Store → Prop,
      I 0 [] (upd (upd S0 D (.lst [])) C (.ns [])) ∧
      (∀ k acc av S2, items[k]? = some av → I k acc S2 → S2 C = some (.ns []) → S2 D = some (.lst acc) → acc.length ≤ k → WA W (Γ.inBlk ⟨scope, cl, C⟩) n tgt av m S2 (fun m1 S3 => m1 = m ∧
        IfsR W (Γ.inBlk ⟨scope, cl, C⟩) n m S3 ifs (KElt W Γ n elt m scope cl C D I k acc))) ∧
      (∀ acc S2, I items.length acc S2 → S2 D = some (.lst acc) → (∀ x ao, (del S2 C) x = some ao → fin (del S2 C) x = some ao) → ∃ S3, Subs S3 (fin (del S2 C)) ∧ QD D S3)
inductive CInv (W : Wd) (Γ : Fc) (P : Option Nat → Led → Prop) (I : Nat → List AV → Store → Prop) (hd tl1 : Led) (m : Loc) (C D : Addr) (N j : Nat) (s : Shared) : Prop
  | mk (k : Nat) (ld tl2 : Led) (acc : List AV) (S2 : Store) (ej : j = N + 1 - k) (hk : k ≤ N) (p : P (some k) ld) (x : Ext tl1 tl2) (st : St W Γ (ld ++ hd) tl2 m S2 s) (i : I k acc S2) (eC : S2 C = some (.ns [])) (eD : S2 D = some (.lst acc)) (ha : acc.length ≤ k)
theorem comp_u {use : Option (Value → Sem Unit)} {mo : Addr → Loc} {vo : Addr → Value} {elt tgt iter : Expr} {ifs : List Expr} {scope : Scope} {pos : Pos} {cl : List (Str × Addr)} {Q : Addr → Store → Prop} {X : Int → Prop} (hclos : closureFor scope Γ.ev = pure cl)
    (h : WE W Γ n iter m S (KComp W Γ n elt tgt ifs m scope cl Q) X) (hb : Γ.blk = none := by kernel_rfl)
    (hcell : ∀ y ∈ scope.names, y.2 ≠ .cell := by decide +kernel) (hkind : scope.kind = .function := by kernel_rfl)
    (hnames : ∀ y ∈ scope.names, y.2 = .local → scope.names.lookup y.1 = some .local := by decide +kernel)
    (hs : ∀ env x, foldedSetIterable iter env x = pure x := by intros; kernel_rfl)
    (hu : ∀ (D C : Addr) (B : Around) hd tl S s f (QQ : Value → Shared → Prop), W.Ok → Γ.Ok W → AOk Γ n B → St W Γ hd tl m S s → (∀ s1, St W Γ hd tl (mo D) S s1 → ∃ mC, s1.heap.Ns C mC ∧ ∀ h', Heap.SameBut C s1.heap h' → QQ (vo D) { s1 with heap := h' }) →
      compPost (model W.prog W.w) B (XP W Γ m X) use QQ (.ref D) C (.ok f) s) (hW : W.Ok) (hΓ : Γ.Ok W) (B : Around) (hd tl : Led) (s : Shared) (pos' : Pos) (hB : AOk Γ n B) (hst : St W Γ hd tl m S s) :
    wpAny (model W.prog W.w) B (comprehension (.ListComp elt [⟨tgt, iter, ifs, 0⟩] scope pos) scope Γ.env pos' (newList []) false (eval iter Γ.env) use) (fun v s' => ∃ D S3 tl', v = vo D ∧ Ext tl tl' ∧ St W Γ hd tl' (mo D) S3 s' ∧ Q D S3) (XP W Γ m X) s := by
  have h1 := h hW hΓ B hd tl s hB hst
  rw [Fc.ev_env hb] at hclos h1
  refine wpAny_comprehension_free (use := use) rfl (hs _) hclos hkind hnames (wpAny_mono h1 ?_ fun _ _ e => e)
  rintro v s1 ⟨av, S1, tl1, x1, st1, r1, items, S0, fin, src, hz, tf⟩
  refine src B hd tl1 m s1 v _ _ hW hΓ hB st1 r1 fun it tl0 P ld s2 T p0 x0 st2 => ?_
  obtain ⟨mc, cs, c2⟩ := st2
  refine newList_K c2.fr c2.nw (fun D h3 F3 N3 l3 => ?_) (by rw [sizeLine_eq]; simp)
  obtain ⟨c3, hSD⟩ := c2.new (tk := s2.toks) F3 N3 l3 (.lst [] 0 [] .nil)
  refine wpAny_newFunctionEnv hcell (by intro y hy; simp at hy) (fun h4 hns hsb => ?_) hkind
  dsimp only at hns hsb ⊢
  let C := h3.objs.size
  let b : Blk := ⟨scope, cl, C⟩
  have F4 := (c3.fr.push { cls := .type "dict", data := .dict #[] })
  have N4 := News.push c3.fr c3.nw { cls := .type "dict", data := .dict #[] }
  obtain ⟨o4, es4, ep4, g4, d4, k4, f4⟩ := hns
  have F5 := F4.change hsb (N4 _ (.head _)).2.1 (N4 _ (.head _)).2.2
  have N5 := N4.setHead c3.nw.apart hsb g4
  have lC : ∀ p ∈ ld ++ hd ++ tl1 ++ (D, listOf ([] : List Value).toArray 0) :: cs, p.1 < C := fun p hp => Heap.lt_size (c3.nw p hp).1
  obtain ⟨c5, hSC⟩ := c3.new (tk := s2.toks + ([] : List (Str × Value)).length) F5 N5 lC (.ns o4 es4 ep4 [] d4 k4 fun _ _ h => nomatch h)
  have hCD : C ≠ D := fun q => by
    have := lC (D, listOf ([] : List Value).toArray 0) (List.mem_append_right _ (.head _))
    rw [q] at this; exact Nat.lt_irrefl _ this
  rw [upd_ne hCD] at hSC
  obtain ⟨I, i0, turn, last⟩ := tf C D hCD hSC hSD
  have hev : (Γ.inBlk b).ev = compEnvC scope cl C Γ.env := rfl
  have loop : codeAny (model W.prog W.w) B (.compLoop (.ListComp elt [⟨tgt, iter, ifs, 0⟩] scope pos) 0 it (.ref D) (compEnvC scope cl C Γ.env)) (compPost (model W.prog W.w) B (XP W Γ m X) use (fun v s' => ∃ D S3 tl', v = vo D ∧ Ext tl tl' ∧ St W Γ hd tl' (mo D) S3 s' ∧ Q D S3) (.ref D) C)
      { s2 with heap := h4, toks := s2.toks + ([] : List (Str × Value)).length } := by
    refine codeAny_compLoop_any (CInv W Γ P I hd tl1 m C D items.length) ?_ (items.length + 1)
      ⟨0, ld, tl1, [], _, rfl, Nat.zero_le _, p0, Ext.refl _, ⟨mc, _, c5⟩, i0, upd_same _ _ _, by rw [upd_ne hCD.symm, upd_same], Nat.le_refl _⟩
    rintro j s6 ⟨k, ld6, tl6, acc, S6, rfl, hk, p6, x6, st6, i6, eC, eD, hacc⟩
    by_cases hlt : k < items.length
    · refine T.next k ld6 B hd tl6 m S6 s6 _ _ _ _ hW hΓ p6 (x0.trans x6) hB st6 items[k] (List.getElem?_eq_getElem hlt) (fun v' s7 h7 => h7) ?_
      intro v7 ld7 tl7 s7 p7 x7 st7 r7
      refine wpAny_mono (turn k acc items[k] S6 (List.getElem?_eq_getElem hlt) i6 eC eD hacc hW hΓ.blk B (ld7 ++ hd) tl7 s7 v7 _ hB.blk (St.blk.mpr st7) r7) ?_ fun _ _ e => e
      rintro _ s8 ⟨m8, S8, tl8, x8, st8, hm8, q8⟩
      rw [hm8] at st8
      have next : ∀ (acc' : List AV) (S9 : Store) (tl9 : Led) (s9 : Shared), Ext tl8 tl9 → St W Γ (ld7 ++ hd) tl9 m S9 s9 → (∃ f, S9 C = some (.ns f)) → S9 D = some (.lst acc') → acc'.length ≤ k + 1 → I (k + 1) acc' (upd S9 C (.ns [])) →
          ∃ m', m' < items.length + 1 - k ∧ CInv W Γ P I hd tl1 m C D items.length m' s9 := by
        intro acc' S9 tl9 s9 x9 st9 ⟨f, hf⟩ hD hl hI
        exact ⟨items.length + 1 - (k + 1), by lia, k + 1, ld7, tl9, acc', _, rfl, hlt, p7, ((x6.trans x7).trans x8).trans x9, st9.weakNs hf, hI, upd_same _ _ _, by rw [upd_ne hCD.symm]; exact hD, hl⟩
      have elem : ∀ (S9 : Store) (tl9 : Led) (s9 : Shared) (E9 : Value → Shared → Prop), Ext tl8 tl9 → St W (Γ.inBlk b) (ld7 ++ hd) tl9 m S9 s9 →
          WE W (Γ.inBlk b) n elt m S9 (fun a S5 => S5 D = some (.lst acc) ∧ (∃ f, S5 C = some (.ns f)) ∧ I (k + 1) (acc ++ [a]) (upd (upd S5 D (.lst (acc ++ [a]))) C (.ns []))) (fun _ => False) →
          wpAny (model W.prog W.w) B (eval elt (compEnvC scope cl C Γ.env)) (fun x s₄ => wpAny (model W.prog W.w) B (call (.builtin "list.append") [.ref D, x]) (fun _ s₅ =>
            ∃ m', m' < items.length + 1 - k ∧ CInv W Γ P I hd tl1 m C D items.length m' s₅) E9 s₄) E9 s9 := by
        intro S9 tl9 s9 E9 x9 st9 q9
        refine wpAny_mono (q9 hW hΓ.blk B (ld7 ++ hd) tl9 s9 hB.blk st9) ?_ fun _ _ ⟨_, f, _⟩ => f.elim
        rintro v10 s10 ⟨a10, S10, tl10, x10, st10, r10, hD, ⟨f, hf⟩, hI⟩
        have fa := f_append (W := W) (Γ := Γ.inBlk b) (n := n) (m := m) (S := S10) (X := fun _ => False) (Q := fun _ S' => S' = upd S10 D (.lst (acc ++ [a10]))) (a := a10) hD rfl (by lia)
        refine wpAny_mono (fa hW hΓ.blk B (ld7 ++ hd) tl10 s10 [.ref D, v10] hB.blk st10 (.cons _ _ _ _ (.ref _) (.cons _ _ _ _ r10 .nil))) ?_ fun _ _ ⟨_, f, _⟩ => f.elim
        rintro _ s11 ⟨_, S11, tl11, x11, st11, _, rfl⟩
        exact next (acc ++ [a10]) _ tl11 s11 ((x9.trans x10).trans x11) (St.blk.mp st11) ⟨f, by rw [upd_ne hCD]; exact hf⟩ (upd_same _ _ _) (by simp; lia) hI
      cases q8 with
      | none _ q => exact wpAny_tests_nil (by
          dsimp only [KElt] at q
          rw [if_pos rfl] at q ⊢
          exact elem S8 tl8 s8 _ (Ext.refl _) st8 q)
      | one c _ q =>
        refine wpAny_tests_one (wpAny_mono (q hW hΓ.blk B (ld7 ++ hd) tl8 s8 hB.blk st8) ?_ fun _ _ ⟨_, f, _⟩ => f.elim)
        rintro ok s9 ⟨S9, tl9, x9, st9, q9⟩
        dsimp only [KElt] at q9
        cases ok with
        | true => rw [if_pos rfl] at q9 ⊢; exact elem S9 tl9 s9 _ x9 st9 q9
        | false =>
          rw [if_neg (by decide)] at q9 ⊢
          exact next acc S9 tl9 s9 x9 (St.blk.mp st9) q9.2.1 q9.1 (by lia) q9.2.2
    · have hkk : items.length = k := by lia
      refine T.done k ld6 B hd tl6 m S6 s6 _ _ hW hΓ p6 (x0.trans x6) hB st6 hkk fun ld7 s7 p7 st7 => ?_
      subst hkk
      refine hu D C B (ld7 ++ hd) tl6 S6 s7 _ _ hW hΓ hB st7 fun s9 st9 => ?_
      obtain ⟨mc7, cs7, c7⟩ := st9
      obtain ⟨o, ho, ro⟩ := c7.obj eC
      obtain ⟨cs8, c8⟩ := c7.hide ho
      cases ro with
      | ns _ es ep _ e1 e2 e3 =>
        refine ⟨fun y => nsFind es y, ⟨o, es, ep, (c7.nw _ (List.mem_append_right _ ho)).1, e1, e2, fun _ => rfl⟩, fun h' hs' => ?_⟩
        have c9 := StC.dropped c8 s9.toks (h' := h') fun b o ne e => hs'.extBut b o ne e
        have st9 := T.leave none ld7 hd tl6 (mo D) _ _ p7 (x0.trans x6) ⟨mc7, cs8, c9⟩
        obtain ⟨S9, sb9, q9⟩ := last acc S6 i6 eD st9.2
        exact ⟨D, S9, tl6, rfl, x1.trans x6, st9.1.sub sb9, q9⟩
  exact codeAny_compStart_list loop (T.self 0 ld B hd tl1 m _ _ _ _ hW hΓ p0 x0 hB ⟨mc, _, c5⟩ loop)
theorem e_comp {elt tgt iter : Expr} {ifs : List Expr} {scope : Scope} {pos : Pos} {cl : List (Str × Addr)} {Q : AV → Store → Prop} {X : Int → Prop} (hclos : closureFor scope Γ.ev = pure cl)
    (h : WE W Γ n iter m S (KComp W Γ n elt tgt ifs m scope cl (fun D => Q (.ref D))) X) (hb : Γ.blk = none := by kernel_rfl)
    (hcell : ∀ y ∈ scope.names, y.2 ≠ .cell := by decide +kernel) (hkind : scope.kind = .function := by kernel_rfl)
    (hnames : ∀ y ∈ scope.names, y.2 = .local → scope.names.lookup y.1 = some .local := by decide +kernel)
    (hs : ∀ env x, foldedSetIterable iter env x = pure x := by intros; kernel_rfl) : WE W Γ n (.ListComp elt [⟨tgt, iter, ifs, 0⟩] scope pos) m S Q X := by
  intro hW hΓ B hd tl s hB hst
  rw [Fc.ev_env hb, eval_ListComp]
  refine wpAny_mono (comp_u (use := none) (mo := fun _ => m) (vo := .ref) (Q := fun D => Q (.ref D)) hclos h hb hcell hkind hnames hs (fun D C B hd tl S s f QQ _ _ _ st h => h s st) hW hΓ B hd tl s _ hB hst) ?_ fun _ _ e => e
  rintro _ s' ⟨D, S3, tl', rfl, x, st, q⟩
  exact ⟨.ref D, S3, tl', x, st, .ref _, q⟩
theorem s_comp {elt tgt iter : Expr} {ifs : List Expr} {scope : Scope} {pos p' pos2 : Pos} {x : Str} {i : Nat} {cl : List (Str × Addr)} {Q : Fl → Loc → Store → Prop} {X : Int → Prop} (hx : Ix x i Γ.ns) (hclos : closureFor scope Γ.ev = pure cl) (hsw : swapsWith (.ListComp elt [⟨tgt, iter, ifs, 0⟩] scope pos) (some (.Name x p')) pos2.line Γ.env = pure true)
    (h : WE W Γ n iter m S (KComp W Γ n elt tgt ifs m scope cl (fun D S3 => Q .nxt (m.set i (some (.ref D))) S3)) X) (hb : Γ.blk = none := by kernel_rfl)
    (hcell : ∀ y ∈ scope.names, y.2 ≠ .cell := by decide +kernel) (hkind : scope.kind = .function := by kernel_rfl)
    (hnames : ∀ y ∈ scope.names, y.2 = .local → scope.names.lookup y.1 = some .local := by decide +kernel)
    (hs : ∀ env x, foldedSetIterable iter env x = pure x := by intros; kernel_rfl) : W1 W Γ n (.Assign [.Name x p'] (.ListComp elt [⟨tgt, iter, ifs, 0⟩] scope pos) pos2) m S Q X := by
  intro hW hΓ B hd tl s hB hst
  rw [Fc.ev_env hb, exec_Assign_Name_used _ _ _ _ hsw]
  refine wpAny_bind (wpAny_standAt (wpAny_bind ?_))
  show wpAny _ B (do let _ ← comprehension (.ListComp elt [⟨tgt, iter, ifs, 0⟩] scope pos) scope Γ.env _ (newList []) false (eval iter Γ.env) (some (assign (.Name x p') Γ.env))) _ _ s
  refine wpAny_bind (wpAny_mono (comp_u (use := some (assign (.Name x p') Γ.env)) (mo := fun D => m.set i (some (.ref D))) (vo := fun _ => .none) (Q := fun D S3 => Q .nxt (m.set i (some (.ref D))) S3) hclos h hb hcell hkind hnames hs ?_ hW hΓ B hd tl s _ hB hst) ?_ fun _ _ e => e.toS)
  · intro D C B hd tl S s f QQ hW hΓ hB st h
    obtain ⟨mc, cs, c⟩ := st
    show wpAny _ B (assign (.Name x p') Γ.env (.ref D)) _ _ _
    refine wpAny_assign_Name (storeX_L c.fr c.nw (fun h' F N => ?_) hΓ.kind (hΓ.loc x hx.mem))
    exact h _ ⟨_, _, c.store hΓ hx (.ref D) F N⟩
  · rintro _ s' ⟨D, S3, tl', rfl, x, st, q⟩
    exact wpAny_pure (wpAny_pure ⟨.nxt, _, S3, tl', x, st, .nxt, q⟩)
end
end
section
noncomputable def noStar : Expr → Bool
  | .Starred .. => false
  | _ => true
noncomputable def plainArgs (as : List Expr) : Bool := as.all noStar
noncomputable def noComp : Expr → Bool
  | .ListComp .. => false
  | .SetComp .. => false
  | .DictComp .. => false
  | _ => true
noncomputable def noSl : Expr → Bool
  | .Slice .. => false
  | _ => true
noncomputable def noSet : Expr → Bool
  | .Set .. => false
  | _ => true
theorem marks_no {op : CmpOp} {r : Expr} (h : noSet r = true) : behindInMarks op r = false := by
  cases r <;> first | rfl | cases h
theorem star_cons {e : Expr} {es : List Expr} (h : noStar e = true) (env : Env) : starEach (e :: es) env = (false, eval e env) :: starEach es env := by
  cases e <;> first | rfl | cases h
theorem star_none {pos : Pos} : ∀ {es : List Expr}, plainArgs es = true → ∀ env, (backTo pos (starEach es env)).any (·.1) = false
  | [], _, _ => rfl
  | e :: es, h, env => by
    unfold plainArgs at h
    rw [List.all_cons, Bool.and_eq_true] at h
    rw [star_cons h.1]
    have := star_none (pos := pos) (es := es) h.2 env
    unfold backTo at this ⊢
    rw [List.map_cons, List.any_cons]
    exact this
theorem swaps_no {e : Expr} {t : Option Expr} {l : Nat} {env : Env} (h : noComp e = true) : swapsWith e t l env = pure false := by
  cases e <;> first | rfl | cases h
theorem sub_plain {slice : Expr} {a b : Value} (h : noSl slice = true) : subscripted slice false a b = operate [a, b] (getItem a b) := by
  cases slice <;> first | rfl | cases h
noncomputable abbrev KMet (W : Wd) (Γ : Fc) (n : Nat) (x : Str) (pos : Pos) (es : List Expr) (m : Loc) (Q : AV → Store → Prop) (X : Int → Prop) : AV → Store → Prop := KRecv W x fun a g S1 => WEs W Γ n pos es m S1 (KCal1 W Γ n (.ref g) (.ref a) m Q X) X
noncomputable abbrev KMet0 (W : Wd) (Γ : Fc) (n : Nat) (x : Str) (m : Loc) (Q : AV → Store → Prop) (X : Int → Prop) : AV → Store → Prop := KRecv W x fun a g S1 => WF W Γ n (.ref g) [.ref a] m S1 Q X
structure FcIs (Γ : Fc) (cs : Scope) (ns : List Str) (cl : List (Str × Addr)) : Prop where
  blk : Γ.blk = none
  cs : Γ.cs = cs
  ns : Γ.ns = ns
  cl : Γ.cl = cl
theorem FcIs.of (cn : Str) (cs : Scope) (cl : List (Str × Addr)) (ns : List Str) (ρ : Rho) : FcIs (mkΓ cn cs cl ns ρ) cs ns cl := ⟨rfl, rfl, rfl, rfl⟩
theorem FcIs.ev {Γ : Fc} {cs : Scope} {ns : List Str} {cl : List (Str × Addr)} (h : FcIs Γ cs ns cl) : Γ.ev.scope = cs := by rw [Fc.ev_env h.blk]; exact h.cs
noncomputable def isGl (cs : Scope) (x : Str) : Bool := cs.kind == .function && cs.names.lookup x == some .globalImplicit && !(x == ("__debug__" : Str))
theorem gl_of {Γ : Fc} {cs : Scope} {ns : List Str} {cl : List (Str × Addr)} {x : Str} (h : FcIs Γ cs ns cl) (g : isGl cs x = true) :
    Γ.ev.scope.kind = .function ∧ Γ.ev.kindOf x = some .globalImplicit ∧ (x == ("__debug__" : Str)) = false := by
  unfold isGl at g
  simp only [Bool.and_eq_true, Bool.not_eq_true', beq_iff_eq] at g
  refine ⟨by rw [h.ev]; exact g.1.1, ?_, g.2⟩
  show Γ.ev.scope.names.lookup x = _
  rw [h.ev]; exact g.1.2
section
variable {W : Wd} {Γ : Fc} {n : Nat} {m : Loc} {S : Store} {X : Int → Prop} {cs : Scope} {ns : List Str} {cl : List (Str × Addr)}
theorem n_enter {f : Addr} {qual : Str} {params : Arguments} {body : List Stmt} {scope : Scope} {cd : Value} {ns : List Str} {avs : List AV} {Q : AV → Store → Prop}
    (hf : FnAt W f qual params body scope cd) (hn : NamesOk params scope ns) (hlen : avs.length = params.args.length)
    (h : ∀ Γ' : Fc, FcIs Γ' scope ns [] → WS W Γ' n body (loc0 ns avs) S (RetQ Q) X) : WK W Γ (n + 1) (.ref f) avs m S Q X :=
  enter hf hn hlen fun ρ => h _ (FcIs.of _ _ _ _ ρ)
theorem n_enterC {f : Addr} {qual : Str} {params : Arguments} {body : List Stmt} {scope : Scope} {cd : Value} {ns : List Str} {xc : Str} {avs : List AV} {m0 : Loc} {cv : Option AV} {Q : AV → Store → Prop}
    (hf : FnAt W f qual params body scope cd) (hn : NamesOkC params scope ns xc) (hlen : avs.length = params.args.length)
    (hm : ∀ (i : Nat) (x : Str) (av : AV), ns[i]? = some x → m0[i]? = some (some av) → ∃ j : Nat, (pnames params)[j]? = some x ∧ avs[j]? = some av)
    (hcv : match cv with | some av => ∃ j : Nat, (pnames params)[j]? = some xc ∧ avs[j]? = some av | none => xc ∉ pnames params)
    (h : ∀ (Γ' : Fc) c, FcIs Γ' scope ns [(xc, c)] → S c = none → WS W Γ' n body m0 (upd S c (.cell cv)) (RetQ Q) X) : WK W Γ (n + 1) (.ref f) avs m S Q X :=
  enterC hf hn hlen hm hcv fun ρ c hc => h _ c (FcIs.of _ _ _ _ ρ) hc
theorem n_name {x : Str} {pos : Pos} {i : Nat} {av : AV} {Q : AV → Store → Prop} (hF : FcIs Γ cs ns cl) (hx : Ix x i ns) (hm : m[i]? = some (some av)) (q : Q av S) : WE W Γ n (.Name x pos) m S Q X :=
  e_name (hF.ns ▸ hx) hm q hF.blk
theorem n_cell {x : Str} {pos : Pos} {c : Addr} {av : AV} {Q : AV → Store → Prop} (hF : FcIs Γ cs ns cl) (hc : cl.lookup x = some c) (hx : cs.names.lookup x = some .cell) (hd : (x == ("__debug__" : Str)) = false) (hm : S c = some (.cell (some av))) (q : Q av S) : WE W Γ n (.Name x pos) m S Q X :=
  e_cell (by rw [hF.cl]; exact hc) hm q hF.blk (by show Γ.cs.names.lookup x = _; rw [hF.cs]; exact hx) hd
theorem n_glob {x : Str} {pos : Pos} {v : Value} {av : AV} {Q : AV → Store → Prop} (hF : FcIs Γ cs ns cl) (g : isGl cs x = true) (e : nsIn W.K mainGlobals x = some (some v)) (hv : VR W.b [] v av) (q : Q av S) : WE W Γ n (.Name x pos) m S Q X :=
  have h := gl_of hF g
  e_glob e hv q h.1 h.2.1 h.2.2
theorem n_attr {y x : Str} {p pos : Pos} {Q : AV → Store → Prop}
    (h : WE W Γ n (.Name y p) m S (KAtt W x Q) X) : WE W Γ n (.Attribute (.Name y p) x pos) m S Q X :=
  e_attr h (fun _ => rfl) (fun _ _ => rfl)
theorem n_cmp {l r : Expr} {op : CmpOp} {pos : Pos} {Q : AV → Store → Prop} (ho : noSet r = true) (h : WE W Γ n l m S (KCmp W Γ n r op m Q X) X) : WE W Γ n (.Compare l [op] [r] pos) m S Q X :=
  e_cmp h (marks_no ho)
theorem nt_cmp {l r : Expr} {op : CmpOp} {pos : Pos} {Q : Bool → Store → Prop} (ho : noSet r = true) (h : WE W Γ n l m S (KCmp W Γ n r op m (KTst Q) X) X) : WT W Γ n (.Compare l [op] [r] pos) m S Q X :=
  t_cmp h (marks_no ho)
theorem ns_cons {pos : Pos} {e : Expr} {es : List Expr} {Q : List AV → Store → Prop} (hs : noStar e = true) (h : WE W Γ n e m S (KArgs W Γ n pos es m Q X) X) : WEs W Γ n pos (e :: es) m S Q X :=
  es_cons h (star_cons hs)
theorem n_assign {x : Str} {e : Expr} {p' pos : Pos} {i : Nat} {Q : Fl → Loc → Store → Prop} (hF : FcIs Γ cs ns cl) (hx : Ix x i ns) (hc : noComp e = true) (h : WE W Γ n e m S (KAsg Q m i) X) : W1 W Γ n (.Assign [.Name x p'] e pos) m S Q X :=
  s_name (hF.ns ▸ hx) h hF.blk (swaps_no hc)
theorem n_sattr {o e : Expr} {x : Str} {p' pos : Pos} {Q : Fl → Loc → Store → Prop} (hc : noComp e = true)
    (h : WE W Γ n e m S (KSas W Γ n o x m Q X) X) : W1 W Γ n (.Assign [.Attribute o x p'] e pos) m S Q X :=
  s_attr h (swaps_no hc)
theorem n_expr {e : Expr} {pos : Pos} {Q : Fl → Loc → Store → Prop} (hF : FcIs Γ cs ns cl) (hk : cs.kind = .function) (hc : noComp e = true) (h : WE W Γ n e m S (KExp Q m) X) : W1 W Γ n (.Expr e pos) m S Q X :=
  s_expr h (by unfold interactive; rw [hF.ev, hk]; rfl) (swaps_no hc)
theorem n_while {test : Expr} {body : List Stmt} {pos : Pos} {Q : Fl → Loc → Store → Prop} (hF : FcIs Γ cs ns cl) (I : Nat → Loc → Store → Prop) (k0 : Nat) (h0 : I k0 m S)
    (turn : ∀ k m1 S1, I k m1 S1 → WT W Γ n test m1 S1 (fun c S2 => if c = true then WS W Γ n body m1 S2 (fun f m2 S3 => match f with
      | .nxt => ∃ k', k' < k ∧ I k' m2 S3
      | .cnt => ∃ k', k' < k ∧ I k' m2 S3
      | .brk => Q .nxt m2 S3
      | .ret v => Q (.ret v) m2 S3) X else Q .nxt m1 S2) X) : W1 W Γ n (.While test body [] pos) m S Q X := s_while I k0 h0 turn hF.blk
noncomputable def plainTest : Expr → Bool
  | .UnaryOp .Not _ _ => false
  | .BoolOp .. => false
  | .IfExp .. => false
  | .Compare .. => false
  | _ => true
theorem nt_val {e : Expr} {Q : Bool → Store → Prop} (he : plainTest e = true) (h : WE W Γ n e m S (KTst Q) X) : WT W Γ n e m S Q X :=
  t_val h (fun env whole => by
    cases e <;> first | rfl | (rename_i op _ _; cases op <;> first | rfl | cases he) | cases he)
theorem n_call {x : Str} {npos pos : Pos} {a : Expr} {rest : List Expr} {g : Addr} {Q : AV → Store → Prop} (hF : FcIs Γ cs ns cl) (gx : isGl cs x = true) (e : nsIn W.K mainGlobals x = some (some (.ref g))) (hk : keepIn W.K (.ref g) = true) (hs : plainArgs (a :: rest) = true)
    (q : WEs W Γ n pos (a :: rest) m S (KCal W Γ n (.ref g) m Q X) X) : WE W Γ n (.Call (.Name x npos) (a :: rest) [] pos) m S Q X :=
  have h := gl_of hF gx
  have hs' : noStar a = true ∧ plainArgs rest = true := by unfold plainArgs at hs; rw [List.all_cons, Bool.and_eq_true] at hs; exact hs
  e_call e hk q h.1 h.2.1 h.2.2 (fun _ => rfl) (star_cons hs'.1) (star_none hs'.2)
theorem n_call0 {x : Str} {npos pos : Pos} {g : Addr} {Q : AV → Store → Prop} (hF : FcIs Γ cs ns cl) (gx : isGl cs x = true) (e : nsIn W.K mainGlobals x = some (some (.ref g))) (hk : keepIn W.K (.ref g) = true)
    (q : WF W Γ n (.ref g) [] m S Q X) : WE W Γ n (.Call (.Name x npos) [] [] pos) m S Q X :=
  have h := gl_of hF gx
  e_call0 e hk q h.1 h.2.1 h.2.2 (fun _ => rfl)
structure IsBi (W : Wd) (x : Str) (g : String) : Prop where
  off : nsIn W.K mainGlobals x = some none
  boot : bootBuiltins x = some (.builtin g)
  ne : x ≠ "__name__"
structure IsTy (W : Wd) (x : Str) (g : String) : Prop where
  off : nsIn W.K mainGlobals x = some none
  boot : bootBuiltins x = some (.type g)
  ne : x ≠ "__name__"
theorem n_bi {x : Str} {npos pos : Pos} {a : Expr} {rest : List Expr} {g : String} {Q : AV → Store → Prop} (hF : FcIs Γ cs ns cl) (gx : isGl cs x = true) (b : IsBi W x g) (hs : plainArgs (a :: rest) = true)
    (q : WEs W Γ n pos (a :: rest) m S (KCal W Γ n (.builtin g) m Q X) X) : WE W Γ n (.Call (.Name x npos) (a :: rest) [] pos) m S Q X :=
  have h := gl_of hF gx
  have hs' : noStar a = true ∧ plainArgs rest = true := by unfold plainArgs at hs; rw [List.all_cons, Bool.and_eq_true] at hs; exact hs
  e_bi b.off b.boot b.ne q h.1 h.2.1 h.2.2 (fun _ => rfl) (star_cons hs'.1) (star_none hs'.2)
theorem n_ty {x : Str} {npos pos : Pos} {a : Expr} {rest : List Expr} {g : String} {Q : AV → Store → Prop} (hF : FcIs Γ cs ns cl) (gx : isGl cs x = true) (b : IsTy W x g) (hs : plainArgs (a :: rest) = true)
    (q : WEs W Γ n pos (a :: rest) m S (KCal W Γ n (.type g) m Q X) X) : WE W Γ n (.Call (.Name x npos) (a :: rest) [] pos) m S Q X :=
  have h := gl_of hF gx
  have hs' : noStar a = true ∧ plainArgs rest = true := by unfold plainArgs at hs; rw [List.all_cons, Bool.and_eq_true] at hs; exact hs
  e_ty b.off b.boot b.ne q h.1 h.2.1 h.2.2 (fun _ => rfl) (star_cons hs'.1) (star_none hs'.2)
theorem few_of {args : List Expr} {pos : Pos} {env : Env} (h1 : plainArgs args = true) (h2 : Nat.blt args.length 30 = true) : methodCallForm (args.length + ([] : List Keyword).length) (backTo pos (starEach args env)) (backToKw pos (keywordEach [] env)) = true := by
  have e1 : (backTo pos (starEach args env)).all (!·.1) = true := by
    have := star_none (pos := pos) h1 env
    rw [List.any_eq_false] at this
    rw [List.all_eq_true]
    intro x hx
    have := this x hx
    simpa using this
  unfold methodCallForm
  rw [e1]
  have : args.length < 30 := Nat.le_of_ble_eq_true h2
  have e2 : backToKw pos (keywordEach [] env) = [] := rfl
  rw [e2]
  simp
  omega
theorem meth_eq {o : Expr} {x : Str} {apos pos : Pos} {args : List Expr} {env : Env} (h1 : plainArgs args = true) (h2 : Nat.blt args.length 30 = true) (h3 : (apos.endLine == pos.line) = true) (h4 : attributeBase o x env (eval o env) = eval o env) :
    eval (.Call (.Attribute o x apos) args [] pos) env = (do
      let ov ← eval o env
      standAt apos.atName
      let (f, first) ← holding [ov] (getMethod ov x (do return (← importBound o env).getD true))
      callWith pos f first (backTo pos (starEach args env)) []) := by
  rw [arm_eval_Call, h4]
  have e2 : ∀ env, backToKw pos (keywordEach [] env) = [] := fun _ => rfl
  have fw := few_of (pos := pos) (env := env) h1 h2
  rw [e2] at fw
  unfold methodCall calleeOf methodCallPos
  simp only [e2, fw, h3, Bool.or_true, if_true]
  rfl
theorem n_meth {y x : Str} {p apos pos : Pos} {e : Expr} {rest : List Expr} {Q : AV → Store → Prop} (h1 : plainArgs (e :: rest) = true) (h2 : Nat.blt (e :: rest).length 30 = true) (h3 : (apos.endLine == pos.line) = true)
    (h : WE W Γ n (.Name y p) m S (KMet W Γ n x pos (e :: rest) m Q X) X) : WE W Γ n (.Call (.Attribute (.Name y p) x apos) (e :: rest) [] pos) m S Q X := by
  intro hW hΓ B hd tl s hB hs
  refine MethodCall_ (pl := (do return (← importBound (.Name y p) Γ.ev).getD true)) (wpAny_mono (h hW hΓ B hd tl s hB hs) ?_ fun _ _ e => e) (meth_eq h1 h2 h3 rfl)
  rintro v s1 ⟨_, S1, tl1, x1, st1, r1, a, C, d, f, g, rfl, ha, hd', hf, hg, q⟩
  apply VR.on_ref r1
  refine meth_recv hW hΓ st1 ha hd' hf hg fun hK hk => ?_
  have hs' : noStar e = true ∧ plainArgs rest = true := by unfold plainArgs at h1; rw [List.all_cons, Bool.and_eq_true] at h1; exact h1
  refine callWith_K (h₀ := s1.heap) hK hk (wpAny_mono (q hW hΓ B hd tl1 s1 hB st1) ?_ fun _ _ e => e) (star_cons hs'.1 _) (star_none hs'.2 _)
  rintro vs s2 ⟨as, S2, tl2, x2, st2, r2, q2⟩
  have hK2 : W.K.In s2.heap := by obtain ⟨mc, cs, c2⟩ := st2; exact c2.inK hW hΓ
  exact ⟨hK2, wpAny_mono (q2 hW hΓ B hd tl2 s2 (.ref a :: vs) hB st2 (.cons _ _ _ _ (.ref _) r2)) (fun _ _ p => p.ext (x1.trans x2)) fun _ _ e => e⟩
theorem n_meth0 {y x : Str} {p apos pos : Pos} {Q : AV → Store → Prop} (h3 : (apos.endLine == pos.line) = true)
    (h : WE W Γ n (.Name y p) m S (KMet0 W Γ n x m Q X) X) : WE W Γ n (.Call (.Attribute (.Name y p) x apos) [] [] pos) m S Q X := by
  intro hW hΓ B hd tl s hB hs
  refine MethodCall_ (pl := (do return (← importBound (.Name y p) Γ.ev).getD true)) (wpAny_mono (h hW hΓ B hd tl s hB hs) ?_ fun _ _ e => e) (meth_eq rfl rfl h3 rfl)
  rintro v s1 ⟨_, S1, tl1, x1, st1, r1, a, C, d, f, g, rfl, ha, hd', hf, hg, q⟩
  apply VR.on_ref r1
  refine meth_recv hW hΓ st1 ha hd' hf hg fun hK hk => ?_
  refine callWith_K0 hK hk ?_
  exact wpAny_mono (q hW hΓ B hd tl1 s1 [.ref a] hB st1 (.cons _ _ _ _ (.ref _) .nil)) (fun _ _ p => p.ext x1) fun _ _ e => e
noncomputable def HasBm (W : Wd) (Γ : Fc) (m : Loc) (S : Store) (a : AV) (x : Str) (id : String) : Prop := W.Ok → Γ.Ok W → ∀ (B : Around) hd tl s v (pl : Sem Bool) (Q : Value × List Value → Shared → Prop) (E : Value → Shared → Prop), St W Γ hd tl m S s → VR W.b tl v a → Q (.builtin id, [v]) s → wpAny (model W.prog W.w) B (getMethod v x pl) Q E s
inductive KBm (W : Wd) (Γ : Fc) (n : Nat) (x : Str) (pos : Pos) (es : List Expr) (m : Loc) (Q : AV → Store → Prop) (X : Int → Prop) (v : AV) (S : Store) : Prop
  | mk (id : String) (h : HasBm W Γ m S v x id) (q : WEs W Γ n pos es m S (fun as S2 => WF W Γ n (.builtin id) (v :: as) m S2 Q X) X)
inductive KBm0 (W : Wd) (Γ : Fc) (n : Nat) (x : Str) (m : Loc) (Q : AV → Store → Prop) (X : Int → Prop) (v : AV) (S : Store) : Prop
  | mk (id : String) (h : HasBm W Γ m S v x id) (q : WF W Γ n (.builtin id) [v] m S Q X)
theorem n_bmeth {o : Expr} {x : Str} {apos pos : Pos} {e : Expr} {rest : List Expr} {Q : AV → Store → Prop} (h1 : plainArgs (e :: rest) = true) (h2 : Nat.blt (e :: rest).length 30 = true) (h3 : (apos.endLine == pos.line) = true) (h4 : ∀ env, attributeBase o x env (eval o env) = eval o env)
    (h : WE W Γ n o m S (KBm W Γ n x pos (e :: rest) m Q X) X) : WE W Γ n (.Call (.Attribute o x apos) (e :: rest) [] pos) m S Q X := by
  intro hW hΓ B hd tl s hB hs
  refine MethodCall_ (pl := (do return (← importBound o Γ.ev).getD true)) (wpAny_mono (h hW hΓ B hd tl s hB hs) ?_ fun _ _ e => e) (meth_eq h1 h2 h3 (h4 _))
  rintro v s1 ⟨av, S1, tl1, x1, st1, r1, id, hbm, q⟩
  refine hbm hW hΓ B hd tl1 s1 v _ _ _ st1 r1 ?_
  have hs' : noStar e = true ∧ plainArgs rest = true := by unfold plainArgs at h1; rw [List.all_cons, Bool.and_eq_true] at h1; exact h1
  have q' := q hW hΓ B hd tl1 s1 hB st1
  rw [star_cons hs'.1] at q' ⊢
  refine Calls.callWith_builtin (by show ((false || (backTo pos (starEach rest Γ.ev)).any (·.1))) = false; rw [star_none hs'.2]; rfl) (Calls.evalArgs_plain (wpAny_mono q' ?_ fun _ _ e => e))
  rintro vs s2 ⟨as, S2, tl2, x2, st2, r2, q2⟩
  exact wpAny_mono (q2 hW hΓ B hd tl2 s2 (v :: vs) hB st2 (.cons _ _ _ _ (r1.ext x2) r2)) (fun _ _ p => p.ext (x1.trans x2)) fun _ _ e => e
theorem n_bmeth0 {o : Expr} {x : Str} {apos pos : Pos} {Q : AV → Store → Prop} (h3 : (apos.endLine == pos.line) = true) (h4 : ∀ env, attributeBase o x env (eval o env) = eval o env)
    (h : WE W Γ n o m S (KBm0 W Γ n x m Q X) X) : WE W Γ n (.Call (.Attribute o x apos) [] [] pos) m S Q X := by
  intro hW hΓ B hd tl s hB hs
  refine MethodCall_ (pl := (do return (← importBound o Γ.ev).getD true)) (wpAny_mono (h hW hΓ B hd tl s hB hs) ?_ fun _ _ e => e) (meth_eq rfl rfl h3 (h4 _))
  rintro v s1 ⟨av, S1, tl1, x1, st1, r1, id, hbm, q⟩
  refine hbm hW hΓ B hd tl1 s1 v _ _ _ st1 r1 ?_
  refine Calls.callWith_builtin rfl (evalArgs_nil3 ?_)
  exact wpAny_mono (q hW hΓ B hd tl1 s1 [v] hB st1 (.cons _ _ _ _ r1 .nil)) (fun _ _ p => p.ext x1) fun _ _ e => e
theorem bm_lst {l : Addr} {as : List AV} {x : Str} {id : String} (e : S l = some (.lst as)) (slot : Slot "list" x id) (hty : typeOf (.builtin id) = pure (.type "method_descriptor")) : HasBm W Γ m S (.ref l) x id := fun _ _ B hd tl s v pl Q E st r q => by
  cases r
  obtain ⟨mc, cs, c⟩ := st
  obtain ⟨vs, k, hm, r, hl⟩ := c.lst e
  exact kl_method c.nw (List.mem_append_right _ hm) slot hty q
theorem bm_str {l : List Nat} {x : Str} {id : String} (slot : Slot "str" x id) (hty : typeOf (.builtin id) = pure (.type "method_descriptor")) (gm : ∀ (M : Model) (A : Around) (E : Value → Shared → Prop) (s : Shared) (y : Str) (t : Tok) (pl : Sem Bool) (Q : Value × List Value → Shared → Prop), Q (.builtin id, [.str y t]) s → wpAny M A (getMethod (.str y t) x pl) Q E s) : HasBm W Γ m S (.str l) x id := fun _ _ B hd tl s v pl Q E st r q => by
  cases r
  exact gm _ _ _ _ _ _ _ _ q
end
end
section
open PySem PySem.W PySem.Calls PyProof.Rows PySem.NumText
section
variable {W : Wd} {Γ : Fc} {n : Nat} {m : Loc} {S : Store} {X : Int → Prop} {cs : Scope} {ns : List Str} {cl : List (Str × Addr)} {Q : AV → Store → Prop}
theorem e_or {e₁ e₂ : Expr} {rest : List Expr} {pos : Pos} (h : WE W Γ n e₁ m S (KTst fun c S1 => if c = true then Q (.bool c) S1 else WE W Γ n (.BoolOp .Or (e₂ :: rest) pos) m S1 Q X) X) : WE W Γ n (.BoolOp .Or (e₁ :: e₂ :: rest) pos) m S Q X := by
  intro hW hΓ B hd tl s hB hs
  refine BoolOp_or (wpAny_mono (h hW hΓ B hd tl s hB hs) ?_ fun _ _ e => e)
  rintro v s1 ⟨a, S1, tl1, x1, st1, r1, c, rfl, q1⟩
  apply VR.on_bool r1
  refine wpAny_truthy_bool ?_
  cases c with
  | true => rw [if_pos rfl] at q1 ⊢; exact ⟨.bool true, S1, tl1, x1, st1, .bool _, q1⟩
  | false => rw [if_neg (by decide)] at q1 ⊢; exact wpAny_mono (q1 hW hΓ B hd tl1 s1 hB st1) (fun _ _ p => p.ext x1) fun _ _ e => e
theorem e_one {e : Expr} {op : BoolOp} {pos : Pos} (h : WE W Γ n e m S Q X) : WE W Γ n (.BoolOp op [e] pos) m S Q X := h
noncomputable def plainIter : Expr → Bool
  | .Name .. => true
  | .Subscript .. => true
  | .Call .. => true
  | _ => false
theorem n_for {tgt iter : Expr} {body : List Stmt} {pos : Pos} {Q : Fl → Loc → Store → Prop} (hF : FcIs Γ cs ns cl) (hi : plainIter iter = true)
    (h : WE W Γ n iter m S (KFor W Γ n tgt body m Q X) X) : W1 W Γ n (.For tgt iter body [] pos) m S Q X :=
  s_for h hF.blk (by cases iter <;> first | (intros; rfl) | cases hi)
theorem nw_name {x : Str} {p : Pos} {i : Nat} {av : AV} {Q : Loc → Store → Prop} (hF : FcIs Γ cs ns cl) (hx : Ix x i ns) (q : Q (m.set i (some av)) S) : WA W Γ n (.Name x p) av m S Q :=
  w_name (hF.ns ▸ hx) q hF.blk
theorem f_int {l : List Nat} (hd : AllDigits l) (h0 : l ≠ []) (h1 : l.length ≤ 640) (q : Q (.int (digitsVal l : Nat)) S) : WF W Γ n (.type "int") [.str l] m S Q X := fun _ _ _ _ _ s0 _ _ st r => by
  apply VRs.on1 r; intro v rv
  apply VR.on_str rv; intro x t e
  subst e
  have hl : x.length ≤ 640 := h1
  exact KIN.call_text (intText_digits hd h0 (by lia)) hl (.val st (.int _ _) q _)
end
end
section
open PySem PySem.W PySem.Calls PyProof.Rows PySem.NumText
inductive KR (b : Heap) (tl : Led) (P : Params) : List DictEntry → List (List Nat × AV) → Prop
  | nil : KR b tl P [] []
  | cons (x : Str) (t : Tok) (v : Value) (y : List Nat) (av : AV) (es : List DictEntry) (l : List (List Nat × AV)) : x.cps.toList = y → VR b tl v av → KR b tl P es l → KR b tl P (⟨PyData.keyHash P x, .str x t, v⟩ :: es) ((y, av) :: l)
noncomputable def KDict (W : Wd) (N : Addr) (l : List (List Nat × AV)) : Prop :=
  ∃ es n, W.K.lookup N = some ⟨.type "dict", none, .dict ⟨es⟩ n, #[]⟩ ∧ KR W.b [] W.w.params es l
theorem KR.lit {b : Heap} {tl : Led} {P : Params} {es : List DictEntry} {l : List (List Nat × AV)} (h : KR b tl P es l) : KeysLit P es :=
  KR.rec (motive := fun es _ _ => KeysLit P es) trivial (fun x t _ _ _ _ _ _ _ _ r => ⟨⟨x, t, rfl, rfl⟩, r⟩) h
theorem KR.get {b : Heap} {tl : Led} {P : Params} {w : List Nat} : ∀ {es : List DictEntry} {l : List (List Nat × AV)}, KR b tl P es l →
    (∀ av, l.lookup w = some av → ∃ v, getL (sOf w) es = some (some v) ∧ VR b tl v av) ∧ (l.lookup w = none → getL (sOf w) es = some none)
  | _, _, .nil => ⟨(fun _ h => by cases h), fun _ => rfl⟩
  | _, _, .cons x t v y av0 es l h3 rv r => by
    have ih := r.get (w := w)
    have e : getL (sOf w) (⟨PyData.keyHash P x, .str x t, v⟩ :: es) = if (y == w) = true then some (some v) else getL (sOf w) es := by
      rw [getL_cons _ _ _ rfl]
      show (if (Value.str x t).isStr (sOf w) = true then _ else _) = _
      rw [isStr_key, eq_sOf h3, beq_sOf]
    rw [e, List.lookup_cons]
    by_cases hy : w = y
    · subst hy
      rw [if_pos (beq_self_eq_true w)]
      refine ⟨fun av h => ?_, fun h => ?_⟩
      · rw [beq_self_eq_true] at h; cases h; exact ⟨v, rfl, rv⟩
      · rw [beq_self_eq_true] at h; cases h
    · have e1 : (w == y) = false := beq_false_of_ne hy
      have e2 : (y == w) = false := beq_false_of_ne (Ne.symm hy)
      rw [e1, e2]
      exact ih
theorem nsIn_getL {K : Frag} {N : Addr} {es : List DictEntry} {n : Nat} {x : Str} (h : K.lookup N = some ⟨.type "dict", none, .dict ⟨es⟩ n, #[]⟩) : nsIn K N x = getL x es := by
  unfold nsIn; rw [h]; rfl
section
variable {W : Wd} {Γ : Fc} {n : Nat} {m : Loc} {S : Store} {X : Int → Prop} {cs : Scope} {ns : List Str} {cl : List (Str × Addr)} {Q : AV → Store → Prop} {N : Addr} {l : List (List Nat × AV)} {w : List Nat}
theorem i_dctK {value slice : Expr} {av : AV} (h : KDict W N l) (hsl : noSl slice = true) (e : l.lookup w = some av) (q : Q av S) : WI W Γ n value slice (.ref N) (.str w) m S Q X := fun hW hΓ _ _ _ _ _ _ _ st r1 r2 => by
  apply VR.on_ref r1
  apply VR.on_str r2; intro x t hx
  obtain ⟨es, k, hl, hr⟩ := h
  obtain ⟨mc, cs, c⟩ := id st
  obtain ⟨v, hg, rv⟩ := (hr.get (w := w)).1 av e
  have hs : (subscripted slice false (.ref N) (.str x t) : Sem Value) = operate [.ref N, .str x t] (getItem (.ref N) (.str x t)) := sub_plain hsl
  exact topItem_K c.fr (hΓ.inK hW) hl hr.lit (by rw [nsIn_getL hl, eq_sOf hx]; exact hg) (.val st (rv.ext fun _ h => by cases h) q _) hs
theorem KDict.some {k : Nat} {es : List DictEntry} (hl : W.K.lookup N = Option.some ⟨.type "dict", Option.none, .dict ⟨es⟩ k, #[]⟩) (hr : KR W.b [] W.w.params es l) {x : Str} (hx : x.cps.toList = w) : ∃ v, nsIn W.K N x = Option.some v ∧ v.isSome = (l.lookup w).isSome := by
  rw [nsIn_getL hl, eq_sOf hx]
  cases e : l.lookup w with
  | none => exact ⟨_, hr.get.2 e, rfl⟩
  | some av =>
    obtain ⟨v, hg, _⟩ := hr.get.1 av e
    exact ⟨_, hg, rfl⟩
theorem c_ninK (h : KDict W N l) (lo : (N == sysModules) = false) (q : Q (.bool (!(l.lookup w).isSome)) S) : WC W Γ n .NotIn (.str w) (.ref N) m S Q X := fun hW hΓ _ _ _ _ _ _ _ st r1 r2 => by
  apply VR.on_ref r2
  apply VR.on_str r1; intro x t hx
  obtain ⟨es, k, hl, hr⟩ := h
  obtain ⟨mc, cs, c⟩ := id st
  obtain ⟨v, hv, hv2⟩ := KDict.some hl hr hx
  have hm := mapOf_K (prog := W.prog) (w := W.w) (c.inK hW hΓ) hl hr.lit
  refine wpAny_notIn_of (strKind_is W.prog W.w x t) lo hm ?_
  rw [find_K hl hv, hv2]
  exact .val st (.bool _) q _
theorem ER.toKR {b : Heap} {tl : Led} {P : Params} {es : List DictEntry} {l : List (List Nat × AV)} : ER b tl P es (l.map fun p => (.str p.1, p.2)) → KR b tl P es l := by
  induction l generalizing es with
  | nil => intro h; cases h; exact .nil
  | cons p l ih =>
    intro h
    obtain ⟨y, av⟩ := p
    cases h
    rename_i x t v es e rv r
    exact .cons x t v y av es l e rv (ih r)
noncomputable abbrev txD (l : List (List Nat × AV)) : AO := .dct (l.map fun p => (.str p.1, p.2))
theorem getL_find {x : Str} {r : Option Value} {es : List DictEntry} (h : getL x es = Option.some r) : findBy Value.isStrOf (⟨es⟩ : Array DictEntry) x = r := by
  unfold getL at h
  have q : (fun d : DictEntry => Value.isStrOf x d.key) = fun d => d.key.isStr x := funext fun d => (isStr_of x d.key).symm
  unfold findBy
  rw [List.find?_toArray, q]
  split at h
  · rename_i e' h'; rw [h']; exact Option.some.inj h
  · rename_i h'
    rw [h']
    split at h
    · cases h
    · exact Option.some.inj h
theorem StC.txD {hd tl : Led} {mc : Str → Option Value} {cs : Led} {s : Shared} {a : Addr} (c : StC W Γ hd tl m S mc cs s) (e : S a = Option.some (txD l)) :
    ∃ es, KR W.b tl W.w.params es l ∧ s.heap.MapOf (strKind W.prog W.w) a (fun k => findBy Value.isStrOf (⟨es⟩ : Array DictEntry) k) := by
  obtain ⟨o, ho, r⟩ := c.obj e
  cases r with
  | dct es k _ r =>
    have r := r.toKR
    refine ⟨es, r, _, ⟨es⟩, k, (c.nw _ (List.mem_append_right _ ho)).1, ⟨rfl, rfl, rfl⟩, rfl, fun e he => ?_, fun _ => rfl⟩
    obtain ⟨x, t, e1, e2⟩ := r.lit.all e (by simpa using he)
    exact ⟨x, by rw [e1]; exact strKind_is W.prog W.w x t, e2⟩
theorem i_dct {value slice : Expr} {a : Addr} {av : AV} (h : S a = Option.some (txD l)) (hsl : noSl slice = true) (e : l.lookup w = Option.some av) (q : Q av S) : WI W Γ n value slice (.ref a) (.str w) m S Q X := fun hW hΓ _ _ _ _ _ _ _ st r1 r2 => by
  apply VR.on_ref r1
  apply VR.on_str r2; intro x t hx
  obtain ⟨mc, cs, c⟩ := id st
  obtain ⟨es, hr, hm⟩ := c.txD h
  obtain ⟨v, hg, rv⟩ := (hr.get (w := w)).1 av e
  have hs : (subscripted slice false (.ref a) (.str x t) : Sem Value) = operate [.ref a, .str x t] (getItem (.ref a) (.str x t)) := sub_plain hsl
  rw [← eq_sOf hx] at hg
  exact tail_any hm.typeIs slot_dict_getitem.lookup (wpAny_getItem_of (strKind_is W.prog W.w x t) hm (getL_find hg) (.val st rv q _)) hs
theorem c_nind {a : Addr} (h : S a = Option.some (txD l)) (lo : (a == sysModules) = false) (q : Q (.bool (!(l.lookup w).isSome)) S) : WC W Γ n .NotIn (.str w) (.ref a) m S Q X := fun hW hΓ _ _ _ _ _ _ _ st r1 r2 => by
  apply VR.on_ref r2
  apply VR.on_str r1; intro x t hx
  obtain ⟨mc, cs, c⟩ := id st
  obtain ⟨es, hr, hm⟩ := c.txD h
  have e : ∃ r, getL x es = Option.some r ∧ r.isSome = (l.lookup w).isSome := by
    rw [eq_sOf hx]
    cases e : l.lookup w with
    | none => exact ⟨_, hr.get.2 e, rfl⟩
    | some av =>
      obtain ⟨v, hg, _⟩ := hr.get.1 av e
      exact ⟨_, hg, rfl⟩
  obtain ⟨r, hv, hv2⟩ := e
  refine wpAny_notIn_of (strKind_is W.prog W.w x t) lo hm ?_
  rw [getL_find hv, hv2]
  exact .val st (.bool _) q _
end
end
section
noncomputable abbrev zObj (f0 f1 : Value) (TI TO : Addr) : Obj := { cls := .type "zip", dict := none, data := .fields #[f0, f1, .bool false, .ref TI, .ref TO], slots := #[] }
structure ZS (z TI TO i1 i2 t1 t2 : Addr) (xs ys : Array Value) (k : Nat) (h : Heap) : Prop where
  zip : ∃ f0 f1, h.get? z = some (zObj f0 f1 TI TO) ∧ (f0 = .none ∨ ∃ T : Nat, f0 = rawInt T)
  ti : IsPair h TI (.ref i1) (.ref i2)
  to : ∃ a b, IsPair h TO a b
  i1 : h.IsTupleIter i1 t1 k
  i2 : h.IsTupleIter i2 t2 k
  t1 : h.IsTuple t1 xs
  t2 : h.IsTuple t2 ys
theorem tup_at {h h' : Heap} {a : Addr} {items : Array Value} (x : h.IsTuple a items) (e : ∀ o, h.get? a = some o → h'.get? a = some o) : h'.IsTuple a items := let ⟨o, ho, r⟩ := x; ⟨o, e _ ho, r⟩
section
variable {prog : Program} {w : World} {A : Around} {E : Value → Shared → Prop} {s : Shared}
theorem alive_any {a : Addr} {Q : Option Obj → Shared → Prop} (h : Q (s.heap.get? a) s) : wpAny (model prog w) A (loadIfAlive a) Q E s := fun _ _ _ => h
theorem z_free {z TI TO : Addr} {f0 f1 : Value} {Q : Bool → Shared → Prop} (hz : s.heap.get? z = some (zObj f0 f1 TI TO)) (h0 : f0 = .none ∨ ∃ T : Nat, f0 = rawInt T)
    (hQ : ∀ b h' f1', h'.get? z = some (zObj f0 f1' TI TO) → Heap.SameBut z s.heap h' → Q b { s with heap := h' }) : wpAny (model prog w) A (Builtin.SmallTypes.ownedTupleIsFree (.ref z)) Q E s := by
  unfold Builtin.SmallTypes.ownedTupleIsFree
  refine wpAny_bind (wpAny_field hz rfl (x := f0) rfl ?_)
  rcases h0 with rfl | ⟨T, rfl⟩
  · exact wpAny_pure (hQ true _ _ hz (Heap.SameBut.refl _ _))
  · show wpAny _ _ (loadIfAlive _ >>= _) _ _ _
    refine wpAny_bind (alive_any ?_)
    refine wpAny_ite_split (fun _ => wpAny_pure (hQ true _ _ hz (Heap.SameBut.refl _ _))) fun _ => ?_
    refine wpAny_bind (wpAny_field hz rfl (x := f1) rfl ?_)
    refine wpAny_ite_split (fun _ => ?_) fun _ => ?_
    · refine wpAny_bind (wpAny_setField_rec hz (by simp) fun h₁ hz₁ hs₁ => ?_)
      exact wpAny_pure (hQ false _ _ hz₁ hs₁)
    · exact wpAny_pure (hQ false _ _ hz (Heap.SameBut.refl _ _))
theorem next_tup_item {it t : Addr} {i : Nat} {items : Array Value} {x : Value} {Q : Value → Shared → Prop} (hit : s.heap.IsTupleIter it t i) (ht : s.heap.IsTuple t items) (hx : items[i]? = some x)
    (hQ : ∀ h', h'.IsTupleIter it t (i + 1) → Heap.SameBut it s.heap h' → Q x { s with heap := h' }) : wpAny (model prog w) A (Builtin.SmallTypes.nextOf (.ref it)) Q E s := by
  obtain ⟨o, ho, hc, hd⟩ := id hit
  obtain ⟨ol, hol, _, nl, hdl⟩ := ht
  unfold Builtin.SmallTypes.nextOf
  refine wpAny_bind (wpAny_callSpecial?_slot (name := Str.ofString "__next__") hit.typeIs PySem.F.slot_tuple_iterator_next
    (wpAny_call_entry PySem.F.slot_tuple_iterator_next hit.typeIs PySem.F.entry_tuple_iterator_next ?_ (PySem.F.args_tuple_iterator_next_1 _)))
  show wpAny _ _ (field (.ref it) 0 >>= _) _ _ s
  refine wpAny_bind (wpAny_field ho hd (x := .ref t) rfl ?_)
  show wpAny _ _ (if (Value.ref t == Value.none) = true then _ else _) _ _ s
  rw [if_neg (show ¬ ((Value.ref t == Value.none) = true) from Bool.false_ne_true)]
  show wpAny _ _ (field (.ref it) 1 >>= _) _ _ s
  refine wpAny_bind (wpAny_field ho hd (x := .int i 0) rfl ?_)
  show wpAny _ _ (seqItems? (.ref t) >>= _) _ _ s
  refine wpAny_bind (wpAny_seqItems hol hdl ?_)
  simp only [Int.toNat_natCast, hx]
  refine wpAny_bind (wpAny_setField ho hd (by simp) (wpAny_pure ⟨x, rfl, wpAny_pure (hQ _ ?_ (Heap.SameBut.update ..))⟩))
  exact ⟨_, Heap.get?_update_self _ ho (Obj.isFreed_of_fields (Obj.data_mapFields hd _)), (Obj.cls_mapFields ..).trans hc, by
    rw [Obj.data_mapFields hd]; simp [rawInt]⟩
theorem next_tup_end {it t : Addr} {i : Nat} {items : Array Value} {Q : Value → Shared → Prop} (hh : A.handled = none) (hit : s.heap.IsTupleIter it t i) (ht : s.heap.IsTuple t items) (hx : items[i]? = none)
    (hE : ∀ h' e, Heap.ExtBut it s.heap h' → (∃ o, h'.get? e = some o ∧ o.cls = .type "StopIteration") → E (.ref e) { s with heap := h' }) : wpAny (model prog w) A (Builtin.SmallTypes.nextOf (.ref it)) Q E s := by
  obtain ⟨o, ho, hc, hd⟩ := id hit
  obtain ⟨ol, hol, _, nl, hdl⟩ := ht
  unfold Builtin.SmallTypes.nextOf
  refine wpAny_bind (wpAny_callSpecial?_slot (name := Str.ofString "__next__") hit.typeIs PySem.F.slot_tuple_iterator_next
    (wpAny_call_entry PySem.F.slot_tuple_iterator_next hit.typeIs PySem.F.entry_tuple_iterator_next ?_ (PySem.F.args_tuple_iterator_next_1 _)))
  show wpAny _ _ (field (.ref it) 0 >>= _) _ _ s
  refine wpAny_bind (wpAny_field ho hd (x := .ref t) rfl ?_)
  show wpAny _ _ (if (Value.ref t == Value.none) = true then _ else _) _ _ s
  rw [if_neg (show ¬ ((Value.ref t == Value.none) = true) from Bool.false_ne_true)]
  show wpAny _ _ (field (.ref it) 1 >>= _) _ _ s
  refine wpAny_bind (wpAny_field ho hd (x := .int i 0) rfl ?_)
  show wpAny _ _ (seqItems? (.ref t) >>= _) _ _ s
  refine wpAny_bind (wpAny_seqItems hol hdl ?_)
  simp only [Int.toNat_natCast, hx]
  refine wpAny_bind (wpAny_rule (wpAny_bind (wpAny_setField ho hd (by simp) ?_)))
  show wpAny _ _ (newExc (.type "StopIteration") [] >>= _) _ _ _
  refine wpAny_bind ?_
  simp only [newExc, newTuple]
  refine wpAny_bind (wpAny_newObj_type ?_ (by size_fits))
  refine wpAny_bind (m := firstArgMember _ _) (wpAny_of_eq (a := Value.none) (by first | rfl | (simp only [firstArgMember]; rfl)) ?_)
  refine wpAny_newObj_type ?_ (by size_fits)
  simp only [raiseNew]
  refine wpAny_bind (wpAny_handled ?_)
  first | rw [show A.in1.handled = none from hh] | rw [hh]
  refine wpAny_bind (wpAny_pure (wpAny_throw ?_))
  exact hE _ _ (((Heap.SameBut.update ..).extBut.push _).push _) ⟨_, Heap.get?_push_size _ rfl, rfl⟩
theorem ZS.keep {z TI TO i1 i2 t1 t2 : Addr} {xs ys : Array Value} {k : Nat} {h h' : Heap} (x : ZS z TI TO i1 i2 t1 t2 xs ys k h) (e : ∀ b o, b = z ∨ b = TI ∨ b = TO ∨ b = i1 ∨ b = i2 ∨ b = t1 ∨ b = t2 → h.get? b = some o → h'.get? b = some o) : ZS z TI TO i1 i2 t1 t2 xs ys k h' := by
  obtain ⟨⟨f0, f1, hz, h0⟩, ti, ⟨a, b, to⟩, a1, a2, b1, b2⟩ := x
  exact ⟨⟨f0, f1, e _ _ (by simp) hz, h0⟩, e _ _ (by simp) ti, ⟨a, b, e _ _ (by simp) to⟩, a1.at fun o q => e _ o (by simp) q, a2.at fun o q => e _ o (by simp) q, tup_at b1 fun o q => e _ o (by simp) q, tup_at b2 fun o q => e _ o (by simp) q⟩
variable {z TI TO i1 i2 t1 t2 : Addr} {xs ys : Array Value} {k : Nat}
theorem z_item {x y : Value} {Q : Option Value → Shared → Prop} (D : ZipApart z TI TO i1 i2 t1 t2) (hs : ZS z TI TO i1 i2 t1 t2 xs ys k s.heap) (hx : xs[k]? = some x) (hy : ys[k]? = some y)
    (hQ : ∀ h', ZS z TI TO i1 i2 t1 t2 xs ys (k + 1) h' → IsPair h' s.heap.objs.size x y → h'.objs.size = s.heap.objs.size + 1 → (∀ c o, c ≠ z → c ≠ TO → c ≠ i1 → c ≠ i2 → s.heap.get? c = some o → h'.get? c = some o) → Q (some (.ref s.heap.objs.size)) { s with heap := h' }) :
    wpAny (model prog w) A (pyNext (.ref z)) Q E s := by
  obtain ⟨⟨f0, f1, hz, h0⟩, hTI, ⟨a, b, hTO⟩, h1, h2, hl1, hl2⟩ := hs
  have hT : s.TypeIs (.ref z) "zip" := ⟨_, hz, rfl⟩
  unfold pyNext
  refine wpAny_bind (wpAny_attempt (wpAny_callSpecial?_slot (name := Str.ofString "__next__") hT PySem.F.slot_zip_next
    (wpAny_call_entry PySem.F.slot_zip_next hT PySem.F.entry_zip_next ?_ (PySem.F.args_zip_next_1 _))))
  show wpAny _ _ (field (.ref z) 2 >>= _) _ _ _
  refine wpAny_bind (wpAny_field hz rfl (x := .bool false) rfl ?_)
  show wpAny _ _ (field (.ref z) 3 >>= _) _ _ _
  refine wpAny_bind (wpAny_field hz rfl (x := .ref TI) rfl ?_)
  refine wpAny_bind (wpAny_seqItems hTI rfl ?_)
  show wpAny _ _ (Builtin.SmallTypes.ownedTupleIsFree (.ref z) >>= _) _ _ _
  refine wpAny_bind (z_free hz h0 fun fr h₀ f1' hz₀ hs₀ => ?_)
  clear hz
  replace h1 := h1.extBut hs₀.extBut D.i1z
  replace h2 := h2.extBut hs₀.extBut D.i2z
  replace hl1 := hl1.extBut hs₀.extBut D.l1z
  replace hl2 := hl2.extBut hs₀.extBut D.l2z
  replace hTI : IsPair h₀ TI (.ref i1) (.ref i2) := hs₀.extBut _ _ D.TIz hTI
  replace hTO : IsPair h₀ TO a b := hs₀.extBut _ _ D.TOz hTO
  have hk₀ : ∀ c o, c ≠ z → s.heap.get? c = some o → h₀.get? c = some o := fun c o e q => hs₀.extBut c o e q
  have hsz0 : h₀.objs.size = s.heap.objs.size := hs₀.1
  clear hs₀ hT
  cases fr with
  | true =>
    simp only [if_true]
    refine wpAny_bind (wpAny_rule ?_)
    refine wpAny_bind (wpAny_field hz₀ rfl (x := .ref TO) rfl ?_)
    refine wpAny_bind (wpAny_setField_rec hz₀ (by simp) fun h₁ hz₁ hs₁ => ?_)
    replace hs₁ : Heap.SameBut z h₀ h₁ := hs₁
    replace hz₁ : h₁.get? z = some (zObj .ellipsis f1' TI TO) := hz₁
    refine wpAny_bind ?_
    simp only [List.zipIdx_cons, List.zipIdx_nil, List.forIn_cons, List.forIn_nil]
    refine wpAny_bind (wpAny_bind (wpAny_onRaise ?_))
    show wpAny _ _ (Builtin.SmallTypes.nextOf (.ref i1) >>= _) _ _ _
    refine wpAny_bind (next_tup_item (h1.extBut hs₁.extBut D.i1z) (hl1.extBut hs₁.extBut D.l1z) hx fun h₂ h1₂ hs₂ => wpAny_pure ?_)
    have hTO₂ : IsPair h₂ TO a b := hs₂.extBut _ _ D.TOi1 (hs₁.extBut _ _ D.TOz hTO)
    refine wpAny_bind (wpAny_seqItems hTO₂ rfl ?_)
    refine wpAny_bind (wpAny_updateSeq_pair hTO₂ fun h₃ hTO₃ hs₃ => ?_)
    replace hTO₃ : IsPair h₃ TO x b := hTO₃
    refine wpAny_bind (wpAny_letGo (wpAny_pure ?_))
    refine wpAny_bind (wpAny_bind (wpAny_onRaise ?_))
    show wpAny _ _ (Builtin.SmallTypes.nextOf (.ref i2) >>= _) _ _ _
    refine wpAny_bind (next_tup_item (((h2.extBut hs₁.extBut D.i2z).extBut hs₂.extBut D.i12.symm).extBut hs₃.extBut D.TOi2.symm)
      (((hl2.extBut hs₁.extBut D.l2z).extBut hs₂.extBut D.l2i1).extBut hs₃.extBut D.l2TO) hy fun h₄ h2₄ hs₄ => wpAny_pure ?_)
    have hTO₄ : IsPair h₄ TO x b := hs₄.extBut _ _ D.TOi2 hTO₃
    refine wpAny_bind (wpAny_seqItems hTO₄ rfl ?_)
    refine wpAny_bind (wpAny_updateSeq_pair hTO₄ fun h₅ hTO₅ hs₅ => ?_)
    replace hTO₅ : IsPair h₅ TO x y := hTO₅
    refine wpAny_bind (wpAny_letGo (wpAny_pure (wpAny_pure ?_)))
    refine wpAny_bind (wpAny_seqItems hTO₅ rfl ?_)
    refine wpAny_bind (wpAny_newTuple ?_)
    have hsz : h₅.objs.size = s.heap.objs.size := by rw [hs₅.1, hs₄.1, hs₃.1, hs₂.1, hs₁.1, hsz0]
    have hz₅ : h₅.get? z = some (zObj .ellipsis f1' TI TO) := hs₅.extBut _ _ D.TOz.symm (hs₄.extBut _ _ D.i2z.symm (hs₃.extBut _ _ D.TOz.symm (hs₂.extBut _ _ D.i1z.symm hz₁)))
    have hk₅ : ∀ c o, c ≠ z → c ≠ TO → c ≠ i1 → c ≠ i2 → h₀.get? c = some o → h₅.get? c = some o := fun c o c1 c2 c3 c4 e =>
      hs₅.extBut _ _ c2 (hs₄.extBut _ _ c4 (hs₃.extBut _ _ c2 (hs₂.extBut _ _ c3 (hs₁.extBut _ _ c1 e))))
    have h1₅ : h₅.IsTupleIter i1 t1 (k + 1) := ((h1₂.extBut hs₃.extBut D.TOi1.symm).extBut hs₄.extBut D.i12).extBut hs₅.extBut D.TOi1.symm
    have h2₅ : h₅.IsTupleIter i2 t2 (k + 1) := h2₄.extBut hs₅.extBut D.TOi2.symm
    have hzlt : z < h₅.objs.size := Heap.lt_size hz₅
    show wpAny _ _ (Builtin.SmallTypes.ownedTupleHandOut (.ref z) (.ref h₅.objs.size) >>= _) _ _ _
    refine wpAny_bind ?_
    unfold Builtin.SmallTypes.ownedTupleHandOut
    have hz₆ : (h₅.push { cls := .type "tuple", data := .seq #[x, y] }).get? z = some (zObj .ellipsis f1' TI TO) := Heap.get?_push_of_some _ hz₅
    refine wpAny_bind (wpAny_setField_rec hz₆ (by simp) fun h₇ hz₇ hs₇ => ?_)
    replace hz₇ : h₇.get? z = some (zObj (rawInt h₅.objs.size) f1' TI TO) := hz₇
    refine wpAny_setField_rec hz₇ (by simp) fun h₈ hz₈ hs₈ => ?_
    replace hz₈ : h₈.get? z = some (zObj (rawInt h₅.objs.size) (.bool false) TI TO) := hz₈
    have up : ∀ c o, c ≠ z → h₅.get? c = some o → h₈.get? c = some o := fun c o c1 e => hs₈.extBut _ _ c1 (hs₇.extBut _ _ c1 (Heap.get?_push_of_some _ e))
    have hT₈ : IsPair h₈ h₅.objs.size x y := hs₈.extBut _ _ (Nat.ne_of_gt hzlt) (hs₇.extBut _ _ (Nat.ne_of_gt hzlt) (Heap.get?_push_size _ rfl))
    have hz8 : h₈.objs.size = h₅.objs.size + 1 := by rw [hs₈.1, hs₇.1, Heap.size_push]
    refine wpAny_pure ⟨_, rfl, wpAny_pure ?_⟩
    rw [hsz] at hT₈ hz8
    show Q (some (.ref h₅.objs.size)) _
    rw [hsz]
    have keep : ∀ c o, c ≠ z → c ≠ TO → c ≠ i1 → c ≠ i2 → h₀.get? c = some o → h₈.get? c = some o := fun c o c1 c2 c3 c4 e => up c o c1 (hk₅ c o c1 c2 c3 c4 e)
    exact hQ h₈ ⟨⟨_, _, hz₈, .inr ⟨_, rfl⟩⟩, keep _ _ D.TIz D.TITO D.TIi1 D.TIi2 hTI, ⟨x, y, up _ _ D.TOz hTO₅⟩, h1₅.at fun o e => up _ o D.i1z e, h2₅.at fun o e => up _ o D.i2z e,
      tup_at hl1 fun o e => keep _ o D.l1z D.l1TO D.l1i1 D.l1i2 e, tup_at hl2 fun o e => keep _ o D.l2z D.l2TO D.l2i1 D.l2i2 e⟩ hT₈ hz8 fun c o c1 c2 c3 c4 e => keep c o c1 c2 c3 c4 (hk₀ c o c1 e)
  | false =>
    simp only [Bool.false_eq_true, if_false]
    refine wpAny_bind ?_
    simp only [List.forIn_toArray, List.forIn_cons, List.forIn_nil]
    refine wpAny_bind (wpAny_bind (wpAny_holding ?_))
    show wpAny _ _ (Builtin.SmallTypes.nextOf (.ref i1) >>= _) _ _ _
    refine wpAny_bind (next_tup_item h1 hl1 hx fun h₂ h1₂ hs₂ => wpAny_pure ?_)
    refine wpAny_pure ?_
    refine wpAny_bind (wpAny_bind (wpAny_holding ?_))
    show wpAny _ _ (Builtin.SmallTypes.nextOf (.ref i2) >>= _) _ _ _
    refine wpAny_bind (next_tup_item (h2.extBut hs₂.extBut D.i12.symm) (hl2.extBut hs₂.extBut D.l2i1) hy fun h₄ h2₄ hs₄ => wpAny_pure ?_)
    refine wpAny_pure (wpAny_pure ?_)
    refine wpAny_bind (wpAny_newTuple ?_ (by show (2 : Nat) ≤ sizeLine; rw [sizeLine_eq]; omega))
    have hsz : h₄.objs.size = s.heap.objs.size := by rw [hs₄.1, hs₂.1, hsz0]
    have up : ∀ c o, c ≠ i1 → c ≠ i2 → h₀.get? c = some o → (h₄.push { cls := .type "tuple", data := .seq #[x, y] }).get? c = some o := fun c o c1 c2 e => Heap.get?_push_of_some _ (hs₄.extBut _ _ c2 (hs₂.extBut _ _ c1 e))
    refine wpAny_pure ⟨_, rfl, wpAny_pure ?_⟩
    show Q (some (.ref h₄.objs.size)) _
    have hT : IsPair (h₄.push { cls := .type "tuple", data := .seq #[x, y] }) h₄.objs.size x y := Heap.get?_push_size _ rfl
    rw [hsz] at hT ⊢
    exact hQ _ ⟨⟨_, _, up _ _ D.i1z.symm D.i2z.symm hz₀, h0⟩, up _ _ D.TIi1 D.TIi2 hTI, ⟨_, _, up _ _ D.TOi1 D.TOi2 hTO⟩, (h1₂.extBut hs₄.extBut D.i12).at fun o e => Heap.get?_push_of_some _ e, h2₄.at fun o e => Heap.get?_push_of_some _ e,
      tup_at hl1 fun o e => up _ o D.l1i1 D.l1i2 e, tup_at hl2 fun o e => up _ o D.l2i1 D.l2i2 e⟩ hT (by rw [Heap.size_push, hsz]) fun c o c1 c2 c3 c4 e => up c o c3 c4 (hk₀ c o c1 e)
theorem z_done {Q : Option Value → Shared → Prop} (hh : A.handled = none) (D : ZipApart z TI TO i1 i2 t1 t2) (hs : ZS z TI TO i1 i2 t1 t2 xs ys k s.heap) (hx : xs[k]? = none)
    (hQ : ∀ h', (∀ c o, c ≠ z → c ≠ i1 → s.heap.get? c = some o → h'.get? c = some o) → Q none { s with heap := h' }) : wpAny (model prog w) A (pyNext (.ref z)) Q E s := by
  obtain ⟨⟨f0, f1, hz, h0⟩, hTI, ⟨a, b, hTO⟩, h1, h2, hl1, hl2⟩ := hs
  have hT : s.TypeIs (.ref z) "zip" := ⟨_, hz, rfl⟩
  unfold pyNext
  refine wpAny_bind (wpAny_attempt (wpAny_callSpecial?_slot (name := Str.ofString "__next__") hT PySem.F.slot_zip_next
    (wpAny_call_entry PySem.F.slot_zip_next hT PySem.F.entry_zip_next ?_ (PySem.F.args_zip_next_1 _))))
  show wpAny _ _ (field (.ref z) 2 >>= _) _ _ _
  refine wpAny_bind (wpAny_field hz rfl (x := .bool false) rfl ?_)
  show wpAny _ _ (field (.ref z) 3 >>= _) _ _ _
  refine wpAny_bind (wpAny_field hz rfl (x := .ref TI) rfl ?_)
  refine wpAny_bind (wpAny_seqItems hTI rfl ?_)
  show wpAny _ _ (Builtin.SmallTypes.ownedTupleIsFree (.ref z) >>= _) _ _ _
  refine wpAny_bind (z_free hz h0 fun fr h₀ f1' hz₀ hs₀ => ?_)
  clear hz
  replace h1 := h1.extBut hs₀.extBut D.i1z
  replace hl1 := hl1.extBut hs₀.extBut D.l1z
  have hk₀ : ∀ c o, c ≠ z → s.heap.get? c = some o → h₀.get? c = some o := fun c o e q => hs₀.extBut c o e q
  clear hs₀ hT
  cases fr with
  | true =>
    simp only [if_true]
    refine wpAny_bind (wpAny_rule ?_)
    refine wpAny_bind (wpAny_field hz₀ rfl (x := .ref TO) rfl ?_)
    refine wpAny_bind (wpAny_setField_rec hz₀ (by simp) fun h₁ hz₁ hs₁ => ?_)
    replace hs₁ : Heap.SameBut z h₀ h₁ := hs₁
    replace hz₁ : h₁.get? z = some (zObj .ellipsis f1' TI TO) := hz₁
    refine wpAny_bind ?_
    simp only [List.zipIdx_cons, List.zipIdx_nil, List.forIn_cons, List.forIn_nil]
    refine wpAny_bind (wpAny_bind (wpAny_onRaise ?_))
    show wpAny _ _ (Builtin.SmallTypes.nextOf (.ref i1) >>= _) _ _ _
    refine wpAny_bind (next_tup_end hh (h1.extBut hs₁.extBut D.i1z) (hl1.extBut hs₁.extBut D.l1z) hx fun h₂ e hs₂ he => ?_)
    obtain ⟨oe, hoe, hce⟩ := he
    have hz₂ : h₂.get? z = some (zObj .ellipsis f1' TI TO) := hs₂ _ _ D.i1z.symm hz₁
    have hez : e ≠ z := fun x => by subst x; rw [hz₂] at hoe; cases hoe; simp at hce
    refine wpAny_setField_rec hz₂ (by simp) fun h₃ _ hs₃ => ?_
    refine wpAny_bind (wpAny_isInstance (T := "StopIteration") (b := true) ⟨oe, hs₃.extBut _ _ hez hoe, hce⟩ isSubtype_stop ?_)
    exact wpAny_pure (hQ _ fun c o c1 c2 x => hs₃.extBut _ _ c1 (hs₂ _ _ c2 (hs₁.extBut _ _ c1 (hk₀ _ _ c1 x))))
  | false =>
    simp only [Bool.false_eq_true, if_false]
    refine wpAny_bind ?_
    simp only [List.forIn_toArray, List.forIn_cons, List.forIn_nil]
    refine wpAny_bind (wpAny_bind (wpAny_holding ?_))
    show wpAny _ _ (Builtin.SmallTypes.nextOf (.ref i1) >>= _) _ _ _
    refine wpAny_bind (next_tup_end hh h1 hl1 hx fun h₂ e hs₂ he => ?_)
    obtain ⟨oe, hoe, hce⟩ := he
    refine wpAny_bind (wpAny_isInstance (T := "StopIteration") (b := true) ⟨oe, hoe, hce⟩ isSubtype_stop ?_)
    exact wpAny_pure (hQ _ fun c o c1 c2 x => hs₂ _ _ c2 (hk₀ _ _ c1 x))
theorem z_self {Q : Value → Shared → Prop} (hs : ZS z TI TO i1 i2 t1 t2 xs ys k s.heap) (h : Q (.ref z) s) : wpAny (model prog w) A (pyIter (.ref z)) Q E s := by
  obtain ⟨f0, f1, hz, _⟩ := hs.zip
  have hT : s.TypeIs (.ref z) "zip" := ⟨_, hz, rfl⟩
  refine wpAny_pyIter_slot hT PySem.F.slot_zip_iter (wpAny_call_entry PySem.F.slot_zip_iter hT PySem.F.entry_zip_iter ?_ (PySem.F.args_zip_iter_1 _))
  show wpAny _ _ (ret (.ref z)) _ _ s
  exact wpAny_pure ⟨_, rfl, "zip", _, hT, PySem.F.slot_zip_next.lookup, h⟩
end
noncomputable abbrev zH1 (h : Heap) (l1 : Addr) : Heap := h.push { cls := .type "tuple_iterator", data := .fields #[.ref l1, .int 0 0] }
noncomputable abbrev zH2 (h : Heap) (l1 l2 : Addr) : Heap := (zH1 h l1).push { cls := .type "tuple_iterator", data := .fields #[.ref l2, .int 0 0] }
noncomputable abbrev zH3 (h : Heap) (l1 l2 : Addr) : Heap := (zH2 h l1 l2).push { cls := .type "tuple", data := .seq #[.ref h.objs.size, .ref (zH1 h l1).objs.size] }
noncomputable abbrev zH4 (h : Heap) (l1 l2 : Addr) : Heap := (zH3 h l1 l2).push { cls := .type "tuple", data := .seq #[.none, .none] }
noncomputable abbrev zH5 (h : Heap) (l1 l2 : Addr) : Heap := (zH4 h l1 l2).push (zObj .none (.bool false) (zH2 h l1 l2).objs.size (zH3 h l1 l2).objs.size)
theorem meets_zip_tup (l1 l2 : Addr) (xs ys : Array Value) :
    Meets (Builtin.«zip.__new__» ⟨[.type "zip", .ref l1, .ref l2], []⟩) (fun _ R s => s.heap.IsTuple l1 xs ∧ s.heap.IsTuple l2 ys ∧
      R (.ok (.ret (.ref (zH4 s.heap l1 l2).objs.size))) { s with heap := zH5 s.heap l1 l2 }) :=
  .of_wp fun prog w A R s h => by
    obtain ⟨hp, g, d, tk, os⟩ := s; obtain ⟨hl1, hl2, h⟩ := h
    have hsub := sub_zip
    have hL1 : Heap.IsTuple (Shared.heap ⟨hp, g, d, tk, os⟩) l1 xs := hl1
    have hL2 : Heap.IsTuple (Shared.heap ⟨hp.push { cls := .type "tuple_iterator", data := .fields #[.ref l1, .int 0 0] }, g, d, tk, os⟩) l2 ys := Heap.IsTuple.push hl2 _
    wp_walk using wpAny_pyIter_tuple hL1, wpAny_pyIter_tuple hL2
    exact ⟨_, rfl, h⟩
section
variable {prog : Program} {w : World} {A : Around} {E : Value → Shared → Prop} {s : Shared}
theorem zip_tups {l1 l2 : Addr} {xs ys : Array Value} {Q : Value → Shared → Prop} (hl1 : s.heap.IsTuple l1 xs) (hl2 : s.heap.IsTuple l2 ys)
    (h : ∀ h', ZS (s.heap.objs.size + 4) (s.heap.objs.size + 2) (s.heap.objs.size + 3) s.heap.objs.size (s.heap.objs.size + 1) l1 l2 xs ys 0 h' → h'.objs.size = s.heap.objs.size + 5 →
      (∀ c o, s.heap.get? c = some o → h'.get? c = some o) → Q (.ref (s.heap.objs.size + 4)) { s with heap := h' }) :
    wpAny (model prog w) A (call (.type "zip") [.ref l1, .ref l2]) Q E s := by
  refine callType_new PySem.F.called_zip (by decide) (PySem.F.typeCall_zip_2 _ _) (PySem.F.newCall_zip_2 _ _) (fun obj => PySem.F.args_object_init_3 obj _ _) PySem.F.entry_zip_new
    (meets_zip_tup l1 l2 xs ys) ⟨hl1, hl2, ?_⟩
  have z1 : (zH1 s.heap l1).objs.size = s.heap.objs.size + 1 := Heap.size_push ..
  have z2 : (zH2 s.heap l1 l2).objs.size = s.heap.objs.size + 2 := by rw [Heap.size_push, z1]
  have z3 : (zH3 s.heap l1 l2).objs.size = s.heap.objs.size + 3 := by rw [Heap.size_push, z2]
  have z4 : (zH4 s.heap l1 l2).objs.size = s.heap.objs.size + 4 := by rw [Heap.size_push, z3]
  have z5 : (zH5 s.heap l1 l2).objs.size = s.heap.objs.size + 5 := by rw [Heap.size_push, z4]
  have g5 : (zH5 s.heap l1 l2).get? (zH4 s.heap l1 l2).objs.size = some _ := Heap.get?_push_size _ rfl
  have g4 : (zH5 s.heap l1 l2).get? (zH3 s.heap l1 l2).objs.size = some _ := Heap.get?_push_of_some _ (Heap.get?_push_size _ rfl)
  have g3 : (zH5 s.heap l1 l2).get? (zH2 s.heap l1 l2).objs.size = some _ := Heap.get?_push_of_some _ (Heap.get?_push_of_some _ (Heap.get?_push_size _ rfl))
  have g2 : (zH5 s.heap l1 l2).get? (zH1 s.heap l1).objs.size = some _ := Heap.get?_push_of_some _ (Heap.get?_push_of_some _ (Heap.get?_push_of_some _ (Heap.get?_push_size _ rfl)))
  have g1 : (zH5 s.heap l1 l2).get? s.heap.objs.size = some _ := Heap.get?_push_of_some _ (Heap.get?_push_of_some _ (Heap.get?_push_of_some _ (Heap.get?_push_of_some _ (Heap.get?_push_size _ rfl))))
  have up : ∀ c o, s.heap.get? c = some o → (zH5 s.heap l1 l2).get? c = some o := fun c o x => Heap.get?_push_of_some _ (Heap.get?_push_of_some _ (Heap.get?_push_of_some _ (Heap.get?_push_of_some _ (Heap.get?_push_of_some _ x))))
  show _ ∧ _
  rw [z2, z3, z4] at g5
  rw [z1, z2] at g3
  rw [z3] at g4
  rw [z1] at g2
  rw [z4]
  exact ⟨⟨_, g5, rfl⟩, h _ ⟨⟨_, _, g5, .inl rfl⟩, g3, ⟨_, _, g4⟩, ⟨_, g1, rfl, rfl⟩, ⟨_, g2, rfl, rfl⟩, tup_at hl1 fun o e => up _ _ e, tup_at hl2 fun o e => up _ _ e⟩ z5 up⟩
end
end
section
structure ZG (xs ys : Array Value) (lo : Addr) (h : Heap) (Ts : List Addr) : Prop where
  rise : Ts.Pairwise (· < ·)
  above : ∀ a ∈ Ts, lo < a
  pairs : ∀ (j : Nat) (T : Addr), Ts[j]? = some T → ∃ x y, xs[j]? = some x ∧ ys[j]? = some y ∧ IsPair h T x y
theorem ZG.there {xs ys : Array Value} {lo : Addr} {h : Heap} {Ts : List Addr} (g : ZG xs ys lo h Ts) {a : Addr} (ha : a ∈ Ts) : a < h.objs.size := by
  obtain ⟨j, hj⟩ := List.mem_iff_getElem?.mp ha
  obtain ⟨_, _, _, _, e⟩ := g.pairs j a hj
  exact Heap.lt_size e
theorem zip_no_len : typeLookup (.type "zip") "__len__" = pure none := by rw [typeLookup_type, builtinLookup_eq_fast]; kernel_rfl
theorem zip_no_hint : typeLookup (.type "zip") "__length_hint__" = pure none := by rw [typeLookup_type, builtinLookup_eq_fast]; kernel_rfl
section
variable {prog : Program} {w : World} {A : Around} {s : Shared} {R : Result → Shared → Prop} {z TI TO i1 i2 t1 t2 S : Addr} {xs ys : Array Value}
structure ZLow (z TI TO i1 i2 t1 t2 S : Addr) : Prop where
  z : z < S
  TI : TI < S
  TO : TO < S
  i1 : i1 < S
  i2 : i2 < S
  t1 : t1 < S
  t2 : t2 < S
theorem ZLow.ne (l : ZLow z TI TO i1 i2 t1 t2 S) {b : Addr} (h : b = z ∨ b = TI ∨ b = TO ∨ b = i1 ∨ b = i2 ∨ b = t1 ∨ b = t2) : b ≠ S := by
  rcases h with rfl | rfl | rfl | rfl | rfl | rfl | rfl
  · exact Nat.ne_of_lt l.z
  · exact Nat.ne_of_lt l.TI
  · exact Nat.ne_of_lt l.TO
  · exact Nat.ne_of_lt l.i1
  · exact Nat.ne_of_lt l.i2
  · exact Nat.ne_of_lt l.t1
  · exact Nat.ne_of_lt l.t2
theorem z_loop (hh : A.handled = none) (D : ZipApart z TI TO i1 i2 t1 t2) (low : ZLow z TI TO i1 i2 t1 t2 S) (he : xs.size = ys.size) (hn : xs.size ≤ sizeLine) (res : Value) {h₁ : Heap}
    (hR : ∀ h' tk acc c Ts, (∀ b o, b ≠ S → b ≠ z → b ≠ TO → b ≠ i1 → b ≠ i2 → h₁.get? b = some o → h'.get? b = some o) → h'.get? S = some { cls := .type "list", dict := none, data := .seq acc c, slots := #[] } → Ts.length = xs.size → ZG xs ys S h' Ts →
      acc.toList = Ts.map Value.ref → R (.ok (.ret res)) { s with heap := h', toks := tk }) :
    ∀ (k i : Nat) (h : Heap) (tk c : Nat) (acc : Array Value) (Ts : List Addr), xs.size - i = k → i ≤ xs.size → ZS z TI TO i1 i2 t1 t2 xs ys i h → (∀ b o, b ≠ S → b ≠ z → b ≠ TO → b ≠ i1 → b ≠ i2 → h₁.get? b = some o → h.get? b = some o) →
      h.get? S = some { cls := .type "list", dict := none, data := .seq acc c, slots := #[] } → acc.toList = Ts.map Value.ref → Ts.length = i → ZG xs ys S h Ts →
      codeAny (model prog w) A (.builtin "list.extend.loop" ⟨[.ref S, .ref z, res], []⟩) R { s with heap := h, toks := tk } := by
  have hzS := Nat.ne_of_lt low.z
  have hTOS := Nat.ne_of_lt low.TO
  have h1S := Nat.ne_of_lt low.i1
  have h2S := Nat.ne_of_lt low.i2
  intro k
  induction k with
  | zero =>
    intro i h tk c acc Ts hk hi hst hkeep hS hacc hal hG
    have hin : i = xs.size := by lia
    refine codeAny_builtin PySem.F.entry_extend_loop ?_
    rw [Around.under_plainId PySem.F.plain_extend_loop _]
    show wpAny _ A.in1 (pyNext (.ref z) >>= _) _ _ _
    refine wpAny_bind (z_done (s := { s with heap := h, toks := tk }) (A := A.in1) hh D hst (Array.getElem?_eq_none (by lia)) fun h' hx => ?_)
    refine wpAny_pure (hR h' tk acc c Ts (fun b o e1 e2 e3 e4 e5 e => hx b o e2 e4 (hkeep b o e1 e2 e3 e4 e5 e)) (hx S _ hzS.symm h1S.symm hS) (by lia) ⟨hG.rise, hG.above, fun j T hj => ?_⟩ hacc)
    obtain ⟨x, y, e1, e2, e3⟩ := hG.pairs j T hj
    have hT := hG.above T (List.mem_of_getElem? hj)
    exact ⟨x, y, e1, e2, hx T _ (Nat.ne_of_gt (Nat.lt_trans low.z hT)) (Nat.ne_of_gt (Nat.lt_trans low.i1 hT)) e3⟩
  | succ k ih =>
    intro i h tk c acc Ts hk hi hst hkeep hS hacc hal hG
    have hlt : i < xs.size := by lia
    have hlt2 : i < ys.size := by lia
    have hsz : acc.size = i := by rw [← Array.length_toList, hacc, List.length_map, hal]
    refine codeAny_builtin PySem.F.entry_extend_loop ?_
    rw [Around.under_plainId PySem.F.plain_extend_loop _]
    show wpAny _ A.in1 (pyNext (.ref z) >>= _) _ _ _
    refine wpAny_bind (z_item (s := { s with heap := h, toks := tk }) D hst (Array.getElem?_eq_getElem hlt) (Array.getElem?_eq_getElem hlt2) fun h' hst' ht hz hkp => ?_)
    dsimp only at ht hz hkp ⊢
    have hS' := hkp S _ hzS.symm hTOS.symm h1S.symm h2S.symm hS
    have up : ∀ b o, b ≠ S → h'.get? b = some o → (h'.update S (Obj.mapSeq (·.push (Value.ref h.objs.size)))).get? b = some o := fun b o hb e => (Heap.get?_update_other _ _ (Ne.symm hb)).trans e
    have hSl : S < h.objs.size := Heap.lt_size hS
    show wpAny _ A.in1 (updateSeq S (·.push (Value.ref h.objs.size)) >>= _) _ _ _
    refine wpAny_bind ?_
    refine wpAny_updateSeq hS' rfl (wpAny_pure ⟨plainId_quiet PySem.F.plain_extend_loop _, ih (i + 1) _ tk _ (acc.push (Value.ref h.objs.size)) (Ts ++ [h.objs.size]) (by lia) hlt (hst'.keep fun b o hb e => up b o (low.ne hb) e)
      (fun b o e1 e2 e3 e4 e5 e => up b o e1 (hkp b o e2 e3 e4 e5 (hkeep b o e1 e2 e3 e4 e5 e))) (Heap.get?_update_self _ hS' rfl) (by rw [Array.toList_push, hacc, List.map_append]; rfl) (by rw [List.length_append, hal]; rfl) ⟨?_, ?_, ?_⟩⟩) (by rw [hsz]; lia) (by show (acc.push (Value.ref h.objs.size)).size ≤ sizeLine + 1; rw [Array.size_push, hsz]; lia)
    · refine List.pairwise_append.mpr ⟨hG.rise, List.pairwise_singleton _ _, fun a ha b hb => ?_⟩
      rw [List.mem_singleton.mp hb]
      exact hG.there ha
    · intro a ha
      rcases List.mem_append.mp ha with ha | ha
      · exact hG.above a ha
      · rw [List.mem_singleton.mp ha]; exact hSl
    · intro j b hj
      rcases Nat.lt_trichotomy j Ts.length with h1 | h1 | h1
      · rw [List.getElem?_append_left h1] at hj
        obtain ⟨x', y', e1, e2, e3⟩ := hG.pairs j b hj
        have hb := hG.above b (List.mem_of_getElem? hj)
        exact ⟨x', y', e1, e2, up b _ (Nat.ne_of_gt hb) (hkp b _ (Nat.ne_of_gt (Nat.lt_trans low.z hb)) (Nat.ne_of_gt (Nat.lt_trans low.TO hb)) (Nat.ne_of_gt (Nat.lt_trans low.i1 hb)) (Nat.ne_of_gt (Nat.lt_trans low.i2 hb)) e3)⟩
      · subst h1
        have hb : h.objs.size = b := by simpa using hj
        subst hb
        exact ⟨_, _, by rw [hal]; exact Array.getElem?_eq_getElem hlt, by rw [hal]; exact Array.getElem?_eq_getElem hlt2, up _ _ (Nat.ne_of_gt hSl) ht⟩
      · have hnone : (Ts ++ [h.objs.size])[j]? = none := List.getElem?_eq_none (by rw [List.length_append, List.length_singleton]; lia)
        rw [hnone] at hj; cases hj
end
section
variable {prog : Program} {w : World} {A : Around} {E : Value → Shared → Prop} {s : Shared} {z TI TO i1 i2 t1 t2 S : Addr} {xs ys : Array Value}
theorem zip_hint (hT : s.TypeIs (.ref z) "zip") {Q : Bool → Shared → Prop} (h : Q true s) : wpAny (model prog w) A (Builtin.List.listLengthHint (.ref z)) Q E s := by
  unfold Builtin.List.listLengthHint
  refine wpAny_bind (wpAny_specialOf hT zip_no_len ?_)
  show wpAny _ _ (specialOf (Value.ref z) (Str.ofString "__length_hint__") >>= _) _ _ _
  refine wpAny_bind (wpAny_specialOf hT zip_no_hint ?_)
  exact wpAny_pure h
theorem zip_ext {R : Result → Shared → Prop} (hh : A.handled = none) (D : ZipApart z TI TO i1 i2 t1 t2) (low : ZLow z TI TO i1 i2 t1 t2 S) (he : xs.size = ys.size) (hn : xs.size ≤ sizeLine) (res : Value) (c₀ : Nat)
    (hst : ZS z TI TO i1 i2 t1 t2 xs ys 0 s.heap) (hS : s.heap.get? S = some { cls := .type "list", data := .seq #[] c₀ })
    (hR : ∀ h' tk acc c Ts, (∀ b o, b ≠ S → b ≠ z → b ≠ TO → b ≠ i1 → b ≠ i2 → s.heap.get? b = some o → h'.get? b = some o) → h'.get? S = some { cls := .type "list", dict := none, data := .seq acc c, slots := #[] } → Ts.length = xs.size → ZG xs ys S h' Ts →
      acc.toList = Ts.map Value.ref → R (.ok (.ret res)) { s with heap := h', toks := tk }) :
    wpAny (model prog w) A.in1 (Builtin.List.listExtendWith (.ref S) (.ref z) res)
      (fun fin s' => match fin with | .done f => R (.ok f) s' | .again c' => c'.quiet = true ∧ codeAny (model prog w) A c' R s') (fun e s' => R (.error e) s') s := by
  obtain ⟨f0, f1, hz, _⟩ := hst.zip
  have hT : s.TypeIs (.ref z) "zip" := ⟨_, hz, rfl⟩
  have hSz : S ≠ z := Nat.ne_of_gt low.z
  unfold Builtin.List.listExtendWith
  refine wpAny_bind (wpAny_typeOf hT ?_)
  have h1 : Builtin.List.listSameRef (.ref S) (.ref z) = false := by simp [Builtin.List.listSameRef, hSz]
  have h2 : (Value.type "zip" == Value.type "list") = false := by decide
  have h3 : (Value.type "zip" == Value.type "tuple") = false := by decide
  simp only [h1, h2, h3, Bool.or_false, Bool.false_eq_true, if_false]
  refine wpAny_bind (z_self hst ?_)
  refine wpAny_bind (wpAny_holding (zip_hint hT ?_))
  refine wpAny_ite_split (fun _ => ?_) (fun _ => ?_)
  · refine wpAny_bind (wpAny_rule ?_)
    refine wpAny_bind ?_
    show wpAny _ _ (updateSeq S (·.push .none) >>= fun _ => updateSeq S (·.pop)) _ _ _
    refine wpAny_bind (wpAny_updateSeq hS rfl ?_)
    have hS₂ := Heap.get?_update_self (Obj.mapSeq (·.push Value.none)) hS rfl
    refine wpAny_updateSeq (hz := by seq_fits) hS₂ rfl ?_
    have hS₃ := Heap.get?_update_self (Obj.mapSeq (·.pop)) hS₂ rfl
    have oth : ∀ b o, b ≠ S → s.heap.get? b = some o → ((s.heap.update S (Obj.mapSeq (·.push Value.none))).update S (Obj.mapSeq (·.pop))).get? b = some o :=
      fun b o hb e => (Heap.get?_update_other _ _ (Ne.symm hb)).trans ((Heap.get?_update_other _ _ (Ne.symm hb)).trans e)
    exact wpAny_pure ⟨plainId_quiet PySem.F.plain_extend_loop _, z_loop (s := s) (h₁ := s.heap) hh D low he hn res hR xs.size 0 _ s.toks _ #[] [] (Nat.sub_zero _) (Nat.zero_le _) (hst.keep fun b o hb e => oth b o (low.ne hb) e) (fun b o hb _ _ _ _ e => oth b o hb e) hS₃ rfl rfl ⟨.nil, (fun _ h => nomatch h), (fun j T hj => by simp at hj)⟩⟩
  · exact wpAny_pure ⟨plainId_quiet PySem.F.plain_extend_loop _, z_loop (s := s) (h₁ := s.heap) hh D low he hn res hR xs.size 0 _ s.toks _ #[] [] (Nat.sub_zero _) (Nat.zero_le _) hst (fun b o _ _ _ _ _ e => e) hS rfl rfl ⟨.nil, (fun _ h => nomatch h), (fun j T hj => by simp at hj)⟩⟩
theorem list_of_zip {Q : Value → Shared → Prop} (hh : A.handled = none) (D : ZipApart z TI TO i1 i2 t1 t2) (low : ZLow z TI TO i1 i2 t1 t2 s.heap.objs.size) (he : xs.size = ys.size) (hn : xs.size ≤ sizeLine) (hst : ZS z TI TO i1 i2 t1 t2 xs ys 0 s.heap)
    (hQ : ∀ h' tk acc c Ts, (∀ b o, b ≠ z → b ≠ TO → b ≠ i1 → b ≠ i2 → s.heap.get? b = some o → h'.get? b = some o) → h'.get? s.heap.objs.size = some { cls := .type "list", dict := none, data := .seq acc c, slots := #[] } → Ts.length = xs.size → ZG xs ys s.heap.objs.size h' Ts →
      acc.toList = Ts.map Value.ref → Q (.ref s.heap.objs.size) { s with heap := h', toks := tk }) :
    wpAny (model prog w) A (call (.type "list") [.ref z]) Q E s := by
  refine callType_codes (Q₁ := fun obj s₁ => obj = .ref s.heap.objs.size ∧ s₁ = { s with heap := s.heap.push { cls := .type "list", data := .seq #[] } }) PySem.F.called_list (PySem.F.typeCall_list_1 _) PySem.F.entry_list_init
    (code_list_new _ ⟨rfl, rfl⟩) fun obj s₁ h₁ => ?_
  obtain ⟨rfl, rfl⟩ := h₁
  have hS : (s.heap.push { cls := .type "list", data := .seq #[] }).get? s.heap.objs.size = some { cls := .type "list", data := .seq #[] } := Heap.get?_push_size _ rfl
  refine ⟨⟨_, hS, rfl⟩, PySem.F.args_list_init_2 _ _, ?_⟩
  show wpAny _ _ (do let old ← Builtin.List.listItems (.ref s.heap.objs.size); Builtin.List.listUpdate (.ref s.heap.objs.size) (fun _ => #[]); letGo old.toList.reverse; Builtin.List.listExtendWith (.ref s.heap.objs.size) (.ref z) .none) _ _ _
  refine wpAny_bind ?_
  unfold Builtin.List.listItems
  refine wpAny_bind (wpAny_seqItems hS rfl (wpAny_pure ?_))
  show wpAny _ _ (updateSeq s.heap.objs.size (fun _ => #[]) >>= fun _ => letGo (#[] : Array Value).toList.reverse >>= fun _ => Builtin.List.listExtendWith (.ref s.heap.objs.size) (.ref z) .none) _ _ _
  refine wpAny_bind (wpAny_updateSeq hS rfl ?_)
  have hS₂ := Heap.get?_update_self (Obj.mapSeq (fun _ => (#[] : Array Value))) hS rfl
  have oth : ∀ b o, b ≠ s.heap.objs.size → s.heap.get? b = some o → ((s.heap.push { cls := .type "list", data := .seq #[] }).update s.heap.objs.size (Obj.mapSeq (fun _ => (#[] : Array Value)))).get? b = some o :=
    fun b o hb e => (Heap.get?_update_other _ _ (Ne.symm hb)).trans (Heap.get?_push_of_some _ e)
  refine wpAny_bind (wpAny_letGo ?_)
  refine zip_ext (A := A.in1) hh D low he hn .none _ (hst.keep fun b o hb e => oth b o (low.ne hb) e) hS₂ fun h' tk acc c Ts hk hS' hl hG hacc => ?_
  exact ⟨rfl, hQ h' tk acc c Ts (fun b o e1 e2 e3 e4 e => hk b o (Nat.ne_of_lt (Heap.lt_size e)) e1 e2 e3 e4 (oth b o (Nat.ne_of_lt (Heap.lt_size e)) e)) hS' hl hG hacc⟩
end
theorem StC.reAO {W : Wd} {Γ : Fc} {hd tl : Led} {m : Loc} {S : Store} {mc : Str → Option Value} {cs : Led} {s : Shared} (c : StC W Γ hd tl m S mc cs s) {a : Addr} {o : Obj} {ao : AO} (hm : (a, o) ∈ cs) (r : OR W.b tl W.w.params o ao) : StC W Γ hd tl m (upd S a ao) mc cs s :=
  ⟨c.fr, c.nw, c.nd, c.lr, fun b ao' e => by
    by_cases q : b = a
    · subst q; rw [upd_same] at e; cases e; exact ⟨o, hm, r⟩
    · rw [upd_ne q] at e; exact c.sr b ao' e, c.sh⟩
theorem StC.tups {W : Wd} {Γ : Fc} {hd : Led} {m : Loc} {S : Store} {mc : Str → Option Value} {cs : Led} {s : Shared} (ps : List (Addr × Obj)) {tl : Led} : StC W Γ hd tl m S mc cs s → (ps.map (·.1)).Pairwise (· < ·) → (∀ p ∈ ps, ∀ q ∈ hd ++ tl ++ cs, q.1 < p.1) →
    (∀ p ∈ ps, s.heap.get? p.1 = some p.2 ∧ p.1 ≠ Γ.L ∧ Γ.g.get? p.1 = none) → ∃ tl', Ext tl tl' ∧ StC W Γ hd tl' m S mc cs s ∧ ∀ p ∈ ps, p ∈ tl' := by
  induction ps generalizing tl with
  | nil => exact fun c _ _ _ => ⟨tl, Ext.refl _, c, fun _ h => nomatch h⟩
  | cons p ps ih =>
    intro c hr ha hp
    rw [List.map_cons, List.pairwise_cons] at hr
    have c1 := c.newT (tk := s.toks) (l := p.1) (o := p.2) (h' := s.heap) c.fr (fun q hq => by
      rcases List.mem_cons.mp hq with rfl | hq
      · exact hp _ (.head _)
      · exact c.nw q hq) (ha p (.head _))
    obtain ⟨tl', x, c2, h2⟩ := ih c1 hr.2 (fun q hq u hu => by
      have h3 : u = (p.1, p.2) ∨ u ∈ hd ++ tl ++ cs := by
        rcases List.mem_append.mp hu with hu | hu
        · rcases List.mem_append.mp hu with hu | hu
          · exact .inr (List.mem_append_left _ (List.mem_append_left _ hu))
          · rcases List.mem_cons.mp hu with hu | hu
            · exact .inl hu
            · exact .inr (List.mem_append_left _ (List.mem_append_right _ hu))
        · exact .inr (List.mem_append_right _ hu)
      rcases h3 with rfl | h3
      · exact hr.1 q.1 (List.mem_map.mpr ⟨q, hq, rfl⟩)
      · exact ha q (.tail _ hq) u h3) fun q hq => hp q (.tail _ hq)
    refine ⟨tl', (Ext.cons _ _).trans x, c2, fun q hq => ?_⟩
    rcases List.mem_cons.mp hq with rfl | hq
    · exact x _ (.head _)
    · exact h2 q hq
noncomputable def pairs2 (as bs : List AV) : List AV := List.zipWith (fun x y => .tup [x, y]) as bs
theorem VRs.pairs {b : Heap} {tl : Led} {Ts : List Addr} : ∀ {vs ws : List Value} {as bs : List AV} {k : Nat}, VRs b tl vs as → VRs b tl ws bs → vs.length = ws.length → Ts.length = vs.length →
    (∀ (j : Nat) (T : Addr), Ts[j]? = some T → ∃ x y, vs[j]? = some x ∧ ws[j]? = some y ∧ (T, ({ cls := .type "tuple", data := .seq #[x, y] } : Obj)) ∈ tl) → VRs b tl (Ts.map .ref) (pairs2 as bs) := by
  induction Ts with
  | nil =>
    intro vs ws as bs _ r1 r2 h1 h2 _
    cases r1 with
    | nil => exact .nil
    | cons _ _ _ _ _ _ => cases h2
  | cons T Ts ih =>
    intro vs ws as bs k r1 r2 h1 h2 hp
    cases r1 with
    | nil => cases h2
    | cons v av vs' as' rv r1 =>
      cases r2 with
      | nil => cases h1
      | cons w aw ws' bs' rw r2 =>
        obtain ⟨x, y, e1, e2, e3⟩ := hp 0 T rfl
        cases e1; cases e2
        refine .cons _ _ _ _ (.tup T [v, w] [av, aw] (.inr ⟨_, 0, e3, rfl, rfl⟩) (.cons _ _ _ _ rv (.cons _ _ _ _ rw .nil))) ?_
        exact ih (k := k) r1 r2 (by simpa using h1) (by simpa using h2) fun j T' hj => by
          obtain ⟨x, y, e1, e2, e3⟩ := hp (j + 1) T' (by simpa using hj)
          exact ⟨x, y, by simpa using e1, by simpa using e2, e3⟩
section
variable {W : Wd} {Γ : Fc} {n : Nat} {m : Loc} {S : Store} {X : Int → Prop} {cs : Scope} {ns : List Str} {cl : List (Str × Addr)} {Q : AV → Store → Prop}
theorem e_lzip {x1 x2 : Str} {p1 p2 p3 p4 : Pos} {a b : Expr} (hF : FcIs Γ cs ns cl) (g1 : isGl cs x1 = true) (b1 : IsTy W x1 "list") (g2 : isGl cs x2 = true) (b2 : IsTy W x2 "zip") (hs : plainArgs [a, b] = true)
    (h : WEs W Γ n p3 [a, b] m S (fun us S1 => ∃ as bs, us = [.tup as, .tup bs] ∧ as.length = bs.length ∧ as.length ≤ 10000 ∧ ∀ l, S1 l = none → Q (.ref l) (upd S1 l (.lst (pairs2 as bs)))) X) : WE W Γ n (.Call (.Name x1 p1) [.Call (.Name x2 p2) [a, b] [] p3] [] p4) m S Q X := by
  intro hW hΓ B hd tl s hB hst
  have k1 := gl_of hF g1
  have k2 := gl_of hF g2
  refine Call_ (name_B hW hΓ hst b1.off b1.boot b1.ne ?_ k1.1 k1.2.1 k1.2.2) rfl
  refine PyProof.Rows.callWith_type1 ?_ (star_cons rfl _) (star_none rfl _)
  rw [star_cons rfl]
  show wpAny _ _ (spliced ((false, eval (.Call (.Name x2 p2) [a, b] [] p3) Γ.ev) :: backTo p4 (starEach [] Γ.ev))) _ _ _
  refine spliced_cons ?_
  refine Call_ (name_B hW hΓ hst b2.off b2.boot b2.ne ?_ k2.1 k2.2.1 k2.2.2) rfl
  have hs' : noStar a = true ∧ plainArgs [b] = true := by unfold plainArgs at hs; rw [List.all_cons, Bool.and_eq_true] at hs; exact hs
  refine PyProof.Rows.callWith_type1 (wpAny_mono (h hW hΓ B hd tl s hB hst) ?_ fun _ _ e => e) (star_cons hs'.1 _) (star_none hs'.2 _)
  rintro vs s2 ⟨us, S2, tl2, x2, st2, r2, as, bs, rfl, hlen, hz, q⟩
  cases r2 with
  | cons _ _ _ _ ra r2 =>
  cases r2 with
  | cons _ _ _ _ rb r2 =>
  cases r2
  cases ra with
  | tup ta va _ ha ra =>
  cases rb with
  | tup tb vb _ hb rb =>
  obtain ⟨mc, cs2, c⟩ := id st2
  obtain ⟨oa, hoa, hca, na, hda⟩ := c.tup hΓ ha
  obtain ⟨ob, hob, hcb, nb, hdb⟩ := c.tup hΓ hb
  refine zip_tups (xs := va.toArray) (ys := vb.toArray) ⟨oa, hoa, hca, na, hda⟩ ⟨ob, hob, hcb, nb, hdb⟩ fun h3 zs hsz keep => ?_
  refine spliced_nil ?_
  have lta := Heap.lt_size hoa
  have ltb := Heap.lt_size hob
  have hea : va.length = as.length := ra.length
  have heb : vb.length = bs.length := rb.length
  refine list_of_zip (s := { s2 with heap := h3 }) hB.handled (zipApart_new lta ltb) ?_ (by simp only [List.size_toArray]; lia) (by simp only [List.size_toArray]; rw [sizeLine_eq]; lia) zs fun h4 tk acc c4 Ts hk hD hl hG hacc => ?_
  · show ZLow _ _ _ _ _ _ _ h3.objs.size
    rw [hsz]
    have l : ∀ j : Nat, j < 5 → (s2.heap.objs.size : Nat) + j < s2.heap.objs.size + 5 := fun j h => Nat.add_lt_add_left h _
    exact ⟨l 4 (by decide), l 2 (by decide), l 3 (by decide), l 0 (by decide), l 1 (by decide), Nat.lt_of_lt_of_le lta (Nat.le_add_right _ 5), Nat.lt_of_lt_of_le ltb (Nat.le_add_right _ 5)⟩
  have ne : ∀ (j : Nat) b o, s2.heap.get? b = some o → b ≠ s2.heap.objs.size + j := fun j b o e => Nat.ne_of_lt (Nat.lt_of_lt_of_le (Heap.lt_size e) (Nat.le_add_right _ _))
  dsimp only at hk hD hG ⊢
  rw [hsz] at hD hG ⊢
  have keep2 : ∀ b o, s2.heap.get? b = some o → h4.get? b = some o := fun b o e => by
    exact hk b o (ne 4 b o e) (ne 3 b o e) (ne 0 b o e) (ne 1 b o e) (keep b o e)
  have F4 := c.fr.keeps keep2
  have hnew : ∀ b, s2.heap.objs.size ≤ b → b ≠ Γ.L ∧ Γ.g.get? b = none := fun b hb => by
    refine ⟨fun q => ?_, ?_⟩
    · have := c.fr.ns.lt; rw [← q] at this; exact absurd this (Nat.not_lt.mpr hb)
    · cases q : Γ.g.get? b with
      | none => rfl
      | some o => exact absurd (Heap.lt_size (c.fr.keep b o q)) (Nat.not_lt.mpr hb)
  have N4 : News Γ.g Γ.L h4 ((s2.heap.objs.size + 5, listOf (Ts.map Value.ref).toArray c4) :: (hd ++ tl2 ++ cs2)) := fun p hp => by
    rcases List.mem_cons.mp hp with rfl | hp
    · refine ⟨?_, hnew _ (Nat.le_add_right _ 5)⟩
      rw [← hacc, Array.toArray_toList]; exact hD
    · exact ⟨keep2 _ _ (c.nw p hp).1, (c.nw p hp).2⟩
  obtain ⟨c5, hn⟩ := c.new (tk := tk) F4 N4 (fun p hp => Nat.lt_of_lt_of_le (Heap.lt_size (c.nw p hp).1) (Nat.le_add_right _ 5)) (.raw _)
  obtain ⟨ps, hps1, hps2⟩ : ∃ ps : List (Addr × Obj), ps.map (·.1) = Ts ∧ ∀ p ∈ ps, ∃ (j : Nat) (x y : Value), Ts[j]? = some p.1 ∧ va.toArray[j]? = some x ∧ vb.toArray[j]? = some y ∧ p.2 = { cls := .type "tuple", data := .seq #[x, y] } ∧ h4.get? p.1 = some p.2 := by
    have : ∀ T ∈ Ts, ∃ (o : Obj) (j : Nat) (x y : Value), Ts[j]? = some T ∧ va.toArray[j]? = some x ∧ vb.toArray[j]? = some y ∧ o = { cls := .type "tuple", data := .seq #[x, y] } ∧ h4.get? T = some o := fun T hT => by
      obtain ⟨j, hj⟩ := List.mem_iff_getElem?.mp hT
      obtain ⟨x, y, e1, e2, e3⟩ := hG.pairs j T hj
      exact ⟨_, j, x, y, hj, e1, e2, rfl, e3⟩
    have gen : ∀ L : List Addr, (∀ T ∈ L, T ∈ Ts) → ∃ ps : List (Addr × Obj), ps.map (·.1) = L ∧ ∀ p ∈ ps, ∃ (j : Nat) (x y : Value), Ts[j]? = some p.1 ∧ va.toArray[j]? = some x ∧ vb.toArray[j]? = some y ∧ p.2 = { cls := .type "tuple", data := .seq #[x, y] } ∧ h4.get? p.1 = some p.2 := by
      intro L
      induction L with
      | nil => exact fun _ => ⟨[], rfl, fun _ h => nomatch h⟩
      | cons T L ih =>
        intro hL
        obtain ⟨ps, e, k⟩ := ih fun T' h => hL T' (.tail _ h)
        obtain ⟨o, ho⟩ := this T (hL T (.head _))
        refine ⟨(T, o) :: ps, by rw [List.map_cons, e], fun p hp => ?_⟩
        rcases List.mem_cons.mp hp with rfl | hp
        · exact ho
        · exact k p hp
    exact gen Ts fun _ h => h
  have hab : ∀ p ∈ ps, s2.heap.objs.size + 5 < p.1 := fun p hp => hG.above p.1 (hps1 ▸ List.mem_map.mpr ⟨p, hp, rfl⟩)
  obtain ⟨tl6, x6, c6, h6⟩ := StC.tups ps c5 (hps1 ▸ hG.rise) (fun p hp u hu => by
      have h3 : u.1 ≤ s2.heap.objs.size + 5 := by
        have h4 : u = (s2.heap.objs.size + 5, listOf (Ts.map Value.ref).toArray c4) ∨ u ∈ hd ++ tl2 ++ cs2 := by
          rcases List.mem_append.mp hu with hu | hu
          · exact .inr (List.mem_append_left _ hu)
          · rcases List.mem_cons.mp hu with hu | hu
            · exact .inl hu
            · exact .inr (List.mem_append_right _ hu)
        rcases h4 with rfl | h4
        · exact Nat.le_refl _
        · exact Nat.le_of_lt (Nat.lt_of_lt_of_le (Heap.lt_size (c.nw u h4).1) (Nat.le_add_right _ 5))
      exact Nat.lt_of_le_of_lt h3 (hab p hp)) fun p hp => by
        obtain ⟨_, _, _, _, _, _, _, e⟩ := hps2 p hp
        exact ⟨e, hnew _ (Nat.le_of_lt (Nat.lt_of_le_of_lt (Nat.le_add_right _ 5) (hab p hp)))⟩
  have c7 := c6.reAO (.head _) (.lst (Ts.map Value.ref) c4 _ (VRs.pairs (k := 0) (ra.ext x6) (rb.ext x6) (by lia) (by simpa using hl) fun j T hj => by
    have hT : T ∈ ps.map (·.1) := hps1 ▸ List.mem_of_getElem? hj
    obtain ⟨p, hp, rfl⟩ := List.mem_map.mp hT
    obtain ⟨j', x, y, e1, e2, e3, e4, e5⟩ := hps2 p hp
    obtain ⟨x', y', f1, f2, f3⟩ := hG.pairs j p.1 hj
    refine ⟨x', y', by simpa using f1, by simpa using f2, ?_⟩
    have h7 := h6 p hp
    have : p.2 = { cls := .type "tuple", data := .seq #[x', y'] } := by
      have := e5.symm.trans f3
      exact Option.some.inj this
    rw [← this]; exact h7))
  rw [upd_upd] at c7
  exact ⟨.ref _, _, tl6, x2.trans x6, ⟨_, _, c7⟩, .ref _, q _ hn⟩
end
end
section
open PySem PySem.W PySem.Calls PyProof.Rows PySem.NumText
open Classical in
section
variable {W : Wd} {Γ : Fc} {n : Nat} {m : Loc} {S : Store} {X : Int → Prop} {cs : Scope} {ns : List Str} {cl : List (Str × Addr)} {Q : AV → Store → Prop}
inductive KTs (a : AV) (Q : AV → Store → Prop) (b : AV) (S : Store) : Prop
  | mk (as : List AV) (i : Nat) (ea : a = .tup as) (eb : b = .int (i : Int)) (h1 : 1 ≤ i) (h2 : i ≤ as.length) (h3 : as.length ≤ 10000) (q : Q (.tup (as.drop i)) S)
theorem e_tslice {value lower : Expr} {p pos : Pos}
    (h : WE W Γ n value m S (fun a S1 => WE W Γ n lower m S1 (KTs a Q) X) X) : WE W Γ n (.Subscript value (.Slice (some lower) none none p) pos) m S Q X := by
  intro hW hΓ B hd tl s hB hs
  refine Subscript_ (wpAny_mono (h hW hΓ B hd tl s hB hs) ?_ fun _ _ e => e)
  rintro v1 s1 ⟨a, S1, tl1, x1, st1, r1, q1⟩
  refine wpAny_Slice (wpAny_mono (q1 hW hΓ B hd tl1 s1 hB st1) ?_ fun _ _ e => e)
  rintro v2 s2 ⟨b, S2, tl2, x2, ⟨mc, cs, st2⟩, r2, as, i, rfl, rfl, h1, h2, h3, q⟩
  rw [evalPart_none]
  refine wpAny_pure (wpAny_pure ?_)
  cases r2 with
  | int _ u =>
  apply VR.on_tup r1; intro t vs ht r
  have e1 := r.length
  have ht2 : IsTup s2.heap t vs.toArray := st2.tup hΓ (ht.ext x2)
  have ht' : IsTup (s2.heap.push { cls := .type "slice", data := .fields #[.int (i : Int) u, .none, .none] }) t vs.toArray := ht2.keeps fun _ _ e => Heap.get?_push_of_some _ e
  refine tail_any (s := { s2 with heap := s2.heap.push { cls := .type "slice", data := .fields #[.int (i : Int) u, .none, .none] } }) ht'.typeIs slot_tuple_getitem.lookup
    (getItem_tuple_from ht' (Heap.IsSliceOf.new ..) h1 (by rw [List.size_toArray, e1]; exact h2) ?_ (by rw [List.size_toArray, e1, sizeLine_eq]; lia)) (ops := [.ref s2.heap.objs.size, .ref t]) (by kernel_rfl)
  have F1 := st2.fr.push { cls := .type "slice", data := .fields #[.int (i : Int) u, .none, .none] }
  have N1 := st2.nw.grown fun _ _ e => Heap.get?_push_of_some { cls := .type "slice", data := .fields #[.int (i : Int) u, .none, .none] } e
  have N2 := News.push F1 N1 { cls := .type "tuple", data := .seq (vs.toArray.toList.drop i).toArray }
  have c2 := st2.newT (tk := s2.toks) (F1.push { cls := .type "tuple", data := .seq (vs.toArray.toList.drop i).toArray }) N2 (fun p hp => Heap.lt_size (N1 p hp).1)
  refine ⟨.tup (as.drop i), S2, _, (x1.trans x2).trans (Ext.cons _ _), ⟨_, _, c2⟩, .tup _ (vs.drop i) _ (.inr ⟨_, _, .head _, rfl, rfl⟩) ((r.drop i).ext (x2.trans (Ext.cons _ _))), q⟩
theorem c_isn {a : AV} (h : ∀ x, a ≠ .ref x) (h2 : ∀ x, a ≠ .tup x) (q : ∀ c, (c = true ↔ a ≠ .none) → Q (.bool c) S) : WC W Γ n .IsNot a .none m S Q X := fun _ _ _ _ _ _ _ _ _ hs r1 r2 => by
  cases r2
  cases r1 with
  | none => exact wpAny_isNot_plain rfl (.now hs (.bool _) (q _ (by simp)))
  | bool b => exact wpAny_isNot_plain rfl (.now hs (.bool _) (q _ (by simp)))
  | int i t => exact wpAny_isNot_plain rfl (.now hs (.bool _) (q _ (by simp)))
  | str s t l e => exact wpAny_isNot_plain rfl (.now hs (.bool _) (q _ (by simp)))
  | tup _ _ l _ _ => exact absurd rfl (h2 l)
  | ref a => exact absurd rfl (h a)
noncomputable def WSet (W : Wd) (Γ : Fc) (n : Nat) (o i v : AV) (m : Loc) (S : Store) (Q : Store → Prop) (X : Int → Prop) : Prop :=
  W.Ok → Γ.Ok W → ∀ B hd tl s v1 v2 v3, AOk Γ n B → St W Γ hd tl m S s → VR W.b tl v1 o → VR W.b tl v2 i → VR W.b tl v3 v → wpAny (model W.prog W.w) B (setItem v1 v2 v3)
    (fun _ => PostT W Γ hd tl m (fun _ => Q) true) (XP W Γ m X) s
theorem n_setitem {o i value : Expr} {p' pos : Pos} {Q : Fl → Loc → Store → Prop} (hc : noComp value = true)
    (h : WE W Γ n value m S (fun v S1 => WE W Γ n o m S1 (fun ov S2 => WE W Γ n i m S2 (fun iv S3 => WSet W Γ n ov iv v m S3 (fun S4 => Q .nxt m S4) X) X) X) X) : W1 W Γ n (.Assign [.Subscript o i p'] value pos) m S Q X := by
  intro hW hΓ B hd tl s hB hst
  refine wpAny_Assign_Subscript (wpAny_mono (h hW hΓ B hd tl s hB hst) ?_ fun _ _ e => e.toS) (swaps_no hc)
  rintro v s1 ⟨a, S1, tl1, x1, st1, r1, q1⟩
  refine wpAny_mono (q1 hW hΓ B hd tl1 s1 hB st1) ?_ fun _ _ e => e.toS
  rintro v2 s2 ⟨a2, S2, tl2, x2, st2, r2, q2⟩
  refine wpAny_mono (q2 hW hΓ B hd tl2 s2 hB st2) ?_ fun _ _ e => e.toS
  rintro v3 s3 ⟨a3, S3, tl3, x3, st3, r3, q3⟩
  refine wpAny_mono (q3 hW hΓ B hd tl3 s3 v2 v3 v hB st3 (r2.ext x3) r3 (r1.ext (x2.trans x3))) ?_ fun _ _ e => e.toS
  rintro _ s4 ⟨S4, tl4, x4, st4, q4⟩
  exact ⟨.nxt, m, S4, tl4, ((x1.trans x2).trans x3).trans x4, st4, .nxt, q4⟩
theorem set_lst {l : Addr} {as : List AV} {i : Nat} {av : AV} {Q : Store → Prop} (e : S l = some (.lst as)) (hi : i < as.length) (hz : as.length ≤ 100000) (q : Q (upd S l (.lst (as.set i av)))) : WSet W Γ n (.ref l) (.int (i : Int)) av m S Q X := by
  intro hW hΓ B hd tl s v1 v2 v3 hB st r1 r2 r3
  apply VR.on_ref r1; (apply VR.on_int r2; intro _)
  obtain ⟨mc, cs, c⟩ := st
  obtain ⟨vs, k, hm, r, hl⟩ := c.lst e
  have e1 := r.length
  have ho : s.heap.get? l = some (listOf vs.toArray k) := (c.nw _ (List.mem_append_right _ hm)).1
  have hN := (c.nw _ (List.mem_append_right _ hm)).2
  refine ki_setAt ho (by lia) (by lia) (by rw [List.size_toArray, e1]; lia) ?_
  have hg := get?_update_seq (c := "list") ho (·.setIfInBounds (i : Int).toNat v3)
  have F := c.fr.change (Heap.SameBut.update s.heap l (Obj.mapSeq (·.setIfInBounds (i : Int).toNat v3))) hN.1 hN.2
  have e2 : (vs.toArray.setIfInBounds (i : Int).toNat v3) = (vs.set i v3).toArray := by simp
  rw [e2] at hg
  obtain ⟨k2, hg⟩ : ∃ k2, (s.heap.update l (Obj.mapSeq (·.setIfInBounds (i : Int).toNat v3))).get? l = some (listOf (vs.set i v3).toArray k2) := ⟨_, hg⟩
  have N : News Γ.g Γ.L (s.heap.update l (Obj.mapSeq (·.setIfInBounds (i : Int).toNat v3))) (hd ++ tl ++ rep l (listOf (vs.set i v3).toArray k2) cs) := by
    have h0 : News Γ.g Γ.L (s.heap.update l (Obj.mapSeq (·.setIfInBounds (i : Int).toNat v3))) (rep l (listOf (vs.set i v3).toArray k2) (hd ++ tl ++ cs)) := News.replace c.nw (Heap.SameBut.update s.heap l (Obj.mapSeq (·.setIfInBounds (i : Int).toNat v3))) hg
    rw [rep_append, rep_off (c.off hm)] at h0
    exact h0
  exact ⟨_, tl, Ext.refl _, ⟨mc, _, c.put (tk := s.toks) hm F N (.lst _ _ _ (VRs.set r3 r i))⟩, q⟩
noncomputable abbrev IDict (W : Wd) (o : Obj) (ks : List Int) : Prop := ∃ kvs : List (Int × Value), o.IsDictOf (intKind W.prog W.w) kvs ∧ kvs.map (·.1) = ks
theorem e_dict0 {pos : Pos} (q : ∀ d, S d = none → (d == sysModules) = false → Q (.ref d) (upd S d (.raw (dictOf [] 0)))) : WE W Γ n (.Dict [] [] pos) m S Q X := by
  intro hW hΓ B hd tl s hB hst
  obtain ⟨mc, cs, c⟩ := hst
  refine wpAny_Dict_empty ?_
  have N := News.push c.fr c.nw { cls := .type "dict", data := .dict #[] }
  obtain ⟨c2, hn⟩ := c.new (tk := s.toks) (o := dictOf [] 0) (c.fr.push _) N (fun p hp => Heap.lt_size (c.nw p hp).1) (.raw _)
  exact ⟨.ref _, _, tl, Ext.refl _, ⟨_, _, c2⟩, .ref _, q _ hn (c.fr.notModules (modules_low (hΓ.top hW).nolimit))⟩
theorem idict0 : IDict W (dictOf [] 0) [] := by
  obtain ⟨o, ho, hd⟩ := Heap.dictOf_iff.mp (Heap.DictOf.new (knd := intKind W.prog W.w) W.b)
  rw [Heap.get?_push_size _ rfl] at ho
  cases ho
  exact ⟨[], hd, rfl⟩
noncomputable def inKeys (ks : List Int) (k : Int) : List Int := if ks.contains k then ks else ks ++ [k]
theorem stored_keys (kvs : List (Int × Value)) (k : Int) (v : Value) : (stored kvs k v).map (·.1) = inKeys (kvs.map (·.1)) k := by
  unfold stored inKeys
  have e : (kvs.any fun kv => decide (kv.1 = k)) = (kvs.map (·.1)).contains k := by
    rw [List.contains_eq_any_beq, List.any_map]
    congr 1
    funext p
    show decide (p.1 = k) = (k == p.1)
    by_cases h : p.1 = k
    · simp [h]
    · have h2 : ¬ k = p.1 := fun q => h q.symm
      simp [h, h2]
  rw [e]
  split
  · rw [List.map_map]
    refine List.map_congr_left fun p _ => ?_
    show (if p.1 = k then (p.1, v) else p).1 = p.1
    split <;> rfl
  · rw [List.map_append]; rfl
theorem set_idict {d : Addr} {o : Obj} {ks : List Int} {k : Int} {av : AV} {Q : Store → Prop} (e : S d = some (.raw o)) (h : IDict W o ks) (hz : ks.length ≤ 10000) (q : ∀ o', IDict W o' (inKeys ks k) → Q (upd S d (.raw o'))) : WSet W Γ n (.ref d) (.int k) av m S Q X := by
  intro hW hΓ B hd tl s v1 v2 v3 hB st r1 r2 r3
  apply VR.on_ref r1
  cases r2 with
  | int _ t =>
  obtain ⟨mc, cs, c⟩ := st
  obtain ⟨o1, hm, ro⟩ := c.obj e
  cases ro
  obtain ⟨kvs, hk, rfl⟩ := h
  have hN := c.nw _ (List.mem_append_right _ hm)
  refine wpAny_setItem_pairs (knd := intKind W.prog W.w) (intKind_is W.prog W.w k t) (Heap.dictOf_iff.mpr ⟨o, hN.1, hk⟩) (fun h' hd' hs' => ?_) (by rw [sizeLine_eq]; rw [List.length_map] at hz; lia)
  obtain ⟨o', ho', hk'⟩ := Heap.dictOf_iff.mp hd'
  have F := c.fr.change hs' hN.2.1 hN.2.2
  have N : News Γ.g Γ.L h' (hd ++ tl ++ rep d o' cs) := by
    have h0 : News Γ.g Γ.L h' (rep d o' (hd ++ tl ++ cs)) := News.replace c.nw hs' ho'
    rw [rep_append, rep_off (c.off hm)] at h0
    exact h0
  exact ⟨_, tl, Ext.refl _, ⟨mc, _, c.put (tk := s.toks + 1) hm F N (.raw _)⟩, q o' ⟨_, hk', stored_keys _ _ _⟩⟩
theorem ints_vr {b : Heap} {tl : Led} {vs : List Value} {ks : List Int} (h : IntsAre vs ks) : VRs b tl vs (ks.map .int) :=
  IntsAre.rec (motive := fun vs ks _ => VRs b tl vs (ks.map .int)) .nil (fun _ _ _ _ _ r => .cons _ _ _ _ (.int _ _) r) h
theorem ints_of {w : World} {prog : Program} : ∀ {vs : List Value} {kvs : List (Int × Value)}, vs.length = kvs.length → (∀ (j : Nat) (v : Value), vs[j]? = some v → ∃ k x, kvs[j]? = some (k, x) ∧ (intKind prog w).is k v = true) → IntsAre vs (kvs.map (·.1)) := by
  intro vs
  induction vs with
  | nil =>
    intro kvs hl _
    cases kvs with
    | nil => exact .nil
    | cons _ _ => cases hl
  | cons v vs ih =>
    intro kvs hl h
    cases kvs with
    | nil => cases hl
    | cons p kvs =>
      obtain ⟨k, x⟩ := p
      obtain ⟨k', x', e, hv⟩ := h 0 v rfl
      cases e
      obtain ⟨t, rfl⟩ := Value.isInt_shape hv
      exact .cons k t (ih (Nat.succ.inj hl) fun j v hj => h (j + 1) v hj)
theorem f_sorted_idict {d : Addr} {o : Obj} {ks : List Int} (e : S d = some (.raw o)) (h : IDict W o ks) (lo : (d == sysModules) = false) (hz : ks.length < 64)
    (q : ∀ l (ns : List Int), S l = none → ns.Perm ks → ns.Pairwise (· ≤ ·) → Q (.ref l) (upd S l (.lst (ns.map .int)))) : WF W Γ n (.builtin "sorted") [.ref d] m S Q X := fun hW hΓ B hd tl s vs hB st r => by
  cases r with
  | cons v _ _ _ rv rr =>
  cases rr; apply VR.on_ref rv
  obtain ⟨mc, cs, c⟩ := st
  obtain ⟨o1, hm, ro⟩ := c.obj e
  cases ro
  obtain ⟨kvs, hk, rfl⟩ := h
  have hN := c.nw _ (List.mem_append_right _ hm)
  obtain ⟨ep, hat⟩ := (Heap.dictOf_iff.mpr ⟨o, hN.1, hk⟩ : s.heap.DictOf (intKind W.prog W.w) d kvs).dictAt
  rw [List.length_map] at hz
  refine kdu_sorted (kdl_dict (knd := intKind W.prog W.w) (kvs := kvs) (ep := ep) lo) hB.handled c.fr c.nw hat (by rw [sizeLine_eq]; lia) fun D h' tk vs F' N' l1 hl hv => ?_
  have hI := ints_of hl hv
  have hD := N' (D, listOf vs.toArray 0) (.head _)
  refine wpAny_call_entry PyProof.Rows.slot_list_sort ⟨_, hD.1, rfl⟩ PyProof.Rows.entry_list_sort (list_sort_tree (n := 0) (vs := vs) hD.1 hI (by lia) fun out ns' hI' hp hP => ⟨.none, rfl, ?_⟩) (PyProof.Rows.args_list_sort _)
  obtain ⟨e3, hg⟩ := sortedHeap_at (vs := vs) (out := out) hD.1
  have old : ∀ b o, b ≠ D → h'.get? b = some o → (sortedHeap h' D vs out).get? b = some o := fun b o hb hbo => by
    rw [sortedHeap_old hb (Heap.lt_size hbo)]; exact hbo
  have F2 : Fr Γ.g Γ.L (sortedHeap h' D vs out) mc := by
    obtain ⟨oL, a1, a2, hL, a3⟩ := F'.ns
    exact ⟨⟨oL, a1, a2, old _ _ hD.2.1.symm hL, a3⟩, fun b o eb => old _ _ (fun q => by rw [q] at eb; have := hD.2.2; rw [show Γ.g.get? D = none from this] at eb; cases eb) (F'.keep b o eb), F'.above⟩
  obtain ⟨c2, hn⟩ := c.new (tk := tk) (o := listOf out e3) F2 (fun p hp => by
    rcases List.mem_cons.mp hp with rfl | hp
    · exact ⟨hg, hD.2⟩
    · have := N' p (.tail _ hp)
      exact ⟨old _ _ (Nat.ne_of_lt (l1 p hp)) this.1, this.2⟩) l1 (by
        have := OR.lst (P := W.w.params) out.toList e3 _ (ints_vr (b := W.b) (tl := tl) hI')
        rw [Array.toArray_toList] at this
        exact this)
  exact ⟨.ref D, _, tl, Ext.refl _, ⟨_, _, c2⟩, .ref _, q D ns' hn hp hP⟩
mutual
inductive RD (S : Store) : AV → Dat → Prop
  | none : RD S .none .none
  | int (i : Int) : RD S (.int i) (.int i)
  | str (l : List Nat) : RD S (.str l) (.str (sOf l))
  | tup (as : List AV) (ds : List Dat) : RDs S as ds → RD S (.tup as) (.tuple ds)
  | lst (a : Addr) (as : List AV) (ds : List Dat) : S a = some (.lst as) → RDs S as ds → RD S (.ref a) (.list ds)
inductive RDs (S : Store) : List AV → List Dat → Prop
  | nil : RDs S [] []
  | cons (a : AV) (d : Dat) (as : List AV) (ds : List Dat) : RD S a d → RDs S as ds → RDs S (a :: as) (d :: ds)
end
theorem kqd_all {n : Nat} {ds : List Dat} (h : kqdOk (n + 1) (.tuple ds) = true) : ∀ d ∈ ds, kqdOk n d = true := by simpa [kqdOk] using h
theorem kqd_allL {n : Nat} {ds : List Dat} (h : kqdOk (n + 1) (.list ds) = true) : ∀ d ∈ ds, kqdOk n d = true := by simpa [kqdOk] using h
theorem reads_of {Γ : Fc} {hd tl : Led} {mc : Str → Option Value} {cs : Led} {s : Shared} (hΓ : Γ.Ok W) (c : StC W Γ hd tl m S mc cs s) {av : AV} {d : Dat} {v : Value} (n : Nat) (h : RD S av d) (r : VR W.b tl v av) (hk : kqdOk n d = true) : ∃ as, Reads s.heap v (kqdP d) as := by
  suffices H : ∀ (n : Nat) (v : Value), VR W.b tl v av → kqdOk n d = true → ∃ as, Reads s.heap v (kqdP d) as from H n v r hk
  refine RD.rec (motive_1 := fun av d _ => ∀ (n : Nat) (v : Value), VR W.b tl v av → kqdOk n d = true → ∃ as, Reads s.heap v (kqdP d) as)
    (motive_2 := fun avs ds _ => ∀ (n : Nat) (vs : List Value), VRs W.b tl vs avs → (∀ d ∈ ds, kqdOk n d = true) → ∃ as, ReadsAll s.heap vs (kqdPs ds) as) (fun n v r _ => ?_) (fun i n v r _ => ?_) (fun l n v r _ => ?_) (fun as ds rd ih n v r hk => ?_) (fun a as ds e rd ih n v r hk => ?_) (fun n vs r _ => ?_) (fun a d as ds h1 h2 i1 i2 n vs r hk => ?_) h
  · cases r; exact ⟨_, Reads.none⟩
  · apply VR.on_int r; intro t; exact ⟨_, Reads.int i _⟩
  · apply VR.on_str r; intro x t e
    rw [← eq_sOf e]; exact ⟨_, Reads.str x t⟩
  · cases n with
    | zero => exact absurd hk (by simp [kqdOk])
    | succ n =>
      apply VR.on_tup r; intro a vs ht rr
      obtain ⟨as, q⟩ := ih n _ rr (kqd_all hk)
      obtain ⟨o, ho, hc, k, hd'⟩ := c.tup hΓ ht
      rw [kqdP]
      exact ⟨as, reads_tuple_at ho hc hd' (by simpa using q)⟩
  · cases n with
    | zero => exact absurd hk (by simp [kqdOk])
    | succ n =>
      apply VR.on_ref r
      obtain ⟨vs, k, hm, rr, ⟨o, ho, hc, k', hd'⟩⟩ := c.lst e
      obtain ⟨as, q⟩ := ih n _ rr (kqd_allL hk)
      rw [kqdP]
      exact ⟨_, reads_list_at ho hc hd' (by simpa using q)⟩
  · apply VRs.on_nil r; exact ⟨_, ReadsAll.nil⟩
  · apply VRs.on_cons r; intro _ _ r1 r2
    obtain ⟨as, q⟩ := i1 n _ r1 (hk _ (.head _))
    obtain ⟨bs, p⟩ := i2 n _ r2 fun d hm => hk d (.tail _ hm)
    rw [kqdPs]
    exact ⟨_, ReadsAll.cons q p⟩
theorem c_nel {a b : Addr} {as bs : List AV} {ds es : List Dat} (e1 : S a = some (.lst as)) (e2 : S b = some (.lst bs)) (r1 : RDs S as ds) (r2 : RDs S bs es) (ha : ∀ d ∈ ds, kqdOk 8 d = true) (hb : ∀ d ∈ es, kqdOk 8 d = true)
    (q : ∀ c : Bool, (c = true ↔ ds ≠ es) → Q (.bool c) S) : WC W Γ n .NotEq (.ref a) (.ref b) m S Q X := fun _ hΓ B _ _ s _ _ hB hs q1 q2 => by
  obtain ⟨mc, cs, c⟩ := id hs
  have la := kqd_lay 9 (.list ds) (by simpa [kqdOk] using ha)
  have lb := kqd_lay 9 (.list es) (by simpa [kqdOk] using hb)
  obtain ⟨_, ra⟩ := reads_of hΓ c 9 (.lst a as ds e1 r1) q1 (by simpa [kqdOk] using ha)
  obtain ⟨_, rb⟩ := reads_of hΓ c 9 (.lst b bs es e2 r2) q2 (by simpa [kqdOk] using hb)
  have qv := kqd_eqv 9 (.list ds) (.list es) 9 (by simpa [kqdOk] using ha) (by simpa [kqdOk] using hb)
  have hu := hB.units
  refine ne_dataH ra rb ?_ ?_ (by lia) (.now hs (.bool _) (q _ ?_))
  · unfold SeqAt.shaped; rw [la.1, Bool.true_and]; exact decide_eq_true (Nat.le_trans la.2 (by decide))
  · unfold SeqAt.shaped; rw [lb.1, Bool.true_and]; exact decide_eq_true (Nat.le_trans lb.2 (by decide))
  · rw [Dat.list.injEq] at qv
    rw [Bool.not_eq_true', ← Bool.not_eq_true]
    exact not_congr qv
theorem c_inl {a : Addr} {x : AV} {as : List AV} {ds : List Dat} {d : Dat} (e1 : S a = some (.lst as)) (r1 : RDs S as ds) (r2 : RD S x d) (ha : ∀ d ∈ ds, kqdOk 8 d = true) (hb : kqdOk 8 d = true)
    (q : ∀ c : Bool, (c = true ↔ d ∈ ds) → Q (.bool c) S) : WC W Γ n .In x (.ref a) m S Q X := fun _ hΓ B _ _ s _ _ hB hs q1 q2 => by
  obtain ⟨mc, cs, c⟩ := id hs
  obtain ⟨_, ra⟩ := reads_of hΓ c 9 (.lst a as ds e1 r1) q2 (by simpa [kqdOk] using ha)
  obtain ⟨_, rx⟩ := reads_of hΓ c 8 r2 q1 hb
  rw [kqdP] at ra
  have l := kqd_layL ha
  have ld := kqd_lay 8 d hb
  have hu := hB.units
  have l2 := ld.2
  refine SeqAt.in_list_reads ra rx l.1 ld.1 ?_ (.now hs (.bool _) (q _ (kqd_any ds d ha hb)))
  have := Nat.min_le_right (PyData.depthAll (kqdPs ds)) (kqdP d).depth
  lia
end
section
variable {W : Wd} {Γ : Fc} {n : Nat} {m : Loc} {S : Store} {X : Int → Prop} {cs : Scope} {ns : List Str} {cl : List (Str × Addr)}
theorem w_cell {x : Str} {p : Pos} {c : Addr} {av : AV} {v0 : Option AV} {Q : Loc → Store → Prop} (hF : FcIs Γ cs ns cl) (hc : cl.lookup x = some c) (hx : cs.names.lookup x = some .cell) (hm : S c = some (.cell v0)) (q : Q m (upd S c (.cell (some av)))) : WA W Γ n (.Name x p) av m S Q := by
  intro hW hΓ B hd tl s v E hB hs rv
  obtain ⟨mc, cs', k⟩ := hs
  obtain ⟨o, ho, r⟩ := k.obj hm
  have hN := k.nw _ (List.mem_append_right _ ho)
  rw [Fc.ev_env hF.blk]
  have cell : ∃ v0 : Option Value, s.heap.IsCell c v0 := by
    cases r with
    | celln _ e => exact ⟨_, _, hN.1, e⟩
    | cells _ _ _ e _ => exact ⟨_, _, hN.1, e⟩
  obtain ⟨v0', hcell⟩ := cell
  refine wpAny_assign_Name (wpAny_storeName_cell hΓ.kind (by show Γ.cs.names.lookup x = _; rw [hF.cs]; exact hx) (show Γ.cl.lookup x = some c by rw [hF.cl]; exact hc) hcell fun h' hc' hs' => ?_)
  obtain ⟨o', ho', e'⟩ := hc'
  have F := k.fr.change hs' hN.2.1 hN.2.2
  have N : News Γ.g Γ.L h' (hd ++ tl ++ rep c o' cs') := by
    have h0 : News Γ.g Γ.L h' (rep c o' (hd ++ tl ++ cs')) := News.replace k.nw hs' ho'
    rw [rep_append, rep_off (k.off ho)] at h0
    exact h0
  exact ⟨m, _, tl, Ext.refl _, ⟨mc, _, k.put (tk := s.toks) ho F N (.cells _ v _ e' rv)⟩, q⟩
theorem n_assignT {elts : List Expr} {k : Nat} {tpos pos : Pos} {value : Expr} {Q : Fl → Loc → Store → Prop} (hc : noComp value = true) (hw : swappedStores [.Tuple elts k tpos] value Γ.ev = pure none) (h : WE W Γ n value m S (fun a S1 => WA W Γ n (.Tuple elts k tpos) a m S1 (fun m2 S2 => Q .nxt m2 S2)) X) : W1 W Γ n (.Assign [.Tuple elts k tpos] value pos) m S Q X := by
  intro hW hΓ B hd tl s hB hst
  refine Assign_Tuple (wpAny_mono (h hW hΓ B hd tl s hB hst) ?_ fun _ _ e => e.toS) (swaps_no (t := some (.Tuple elts k tpos)) (l := pos.line) (env := Γ.ev) hc) hw
  rintro v s1 ⟨a, S1, tl1, x1, st1, r1, q1⟩
  refine wpAny_mono (q1 hW hΓ B hd tl1 s1 v _ hB st1 r1) ?_ fun _ _ e => e
  rintro _ s2 ⟨m2, S2, tl2, x2, st2, q2⟩
  exact ⟨.nxt, m2, S2, tl2, x1.trans x2, st2, .nxt, q2⟩
end
end
section
open PySem PySem.W PySem.Calls PyProof.Rows PySem.NumText
theorem StC.moved {W : Wd} {Γ : Fc} {A A' hd tl : Led} {m : Loc} {S : Store} {mc : Str → Option Value} {cs : Led} {s : Shared} (c : StC W Γ (A ++ hd) tl m S mc cs s) (hk : A'.map (·.1) = A.map (·.1)) {h' : Heap} (tk : Nat)
    (k : ∀ b o, b ∉ A.map (·.1) → s.heap.get? b = some o → h'.get? b = some o) (hA : ∀ p ∈ A', h'.get? p.1 = some p.2) : StC W Γ (A' ++ hd) tl m S mc cs { s with heap := h', toks := tk } := by
  have inA : ∀ b, b ∈ A.map (·.1) → b ≠ Γ.L ∧ Γ.g.get? b = none := fun b hb => by
    obtain ⟨p, hp, rfl⟩ := List.mem_map.mp hb
    exact (c.nw p (List.mem_append_left _ (List.mem_append_left _ (List.mem_append_left _ hp)))).2
  have ap : ∀ p ∈ hd ++ tl ++ cs, p.1 ∉ A.map (·.1) := fun p hp q => by
    have nd := c.nd
    rw [List.append_assoc, List.append_assoc, List.map_append, List.nodup_append] at nd
    exact nd.2.2 p.1 q p.1 (List.mem_map.mpr ⟨p, by rw [← List.append_assoc]; exact hp, rfl⟩) rfl
  refine ⟨⟨?_, fun b o e => k b o (fun q => by rw [(inA b q).2] at e; cases e) (c.fr.keep b o e), c.fr.above⟩, fun p hp => ?_, ?_, c.lr, c.sr, c.sh.gens, c.sh.drawn, c.sh.os⟩
  · obtain ⟨o, es, ep, e, r⟩ := c.fr.ns
    exact ⟨o, es, ep, k _ _ (fun q => (inA _ q).1 rfl) e, r⟩
  · rw [List.append_assoc, List.append_assoc] at hp
    rcases List.mem_append.mp hp with hp | hp
    · exact ⟨hA p hp, inA p.1 (hk ▸ List.mem_map.mpr ⟨p, hp, rfl⟩)⟩
    · rw [← List.append_assoc] at hp
      have h1 := c.nw p (by rw [List.append_assoc, List.append_assoc]; exact List.mem_append_right _ (by rw [← List.append_assoc]; exact hp))
      exact ⟨k _ _ (ap p hp) h1.1, h1.2⟩
  · have nd := c.nd
    rw [List.append_assoc, List.append_assoc, List.map_append] at nd ⊢
    rw [hk]; exact nd
theorem StC.dropA {W : Wd} {Γ : Fc} {A hd tl : Led} {m : Loc} {S : Store} {mc : Str → Option Value} {cs : Led} {s : Shared} (c : StC W Γ (A ++ hd) tl m S mc cs s) {h' : Heap} (tk : Nat)
    (k : ∀ b o, b ∉ A.map (·.1) → s.heap.get? b = some o → h'.get? b = some o) : StC W Γ hd tl m S mc cs { s with heap := h', toks := tk } := by
  have inA : ∀ b, b ∈ A.map (·.1) → b ≠ Γ.L ∧ Γ.g.get? b = none := fun b hb => by
    obtain ⟨p, hp, rfl⟩ := List.mem_map.mp hb
    exact (c.nw p (List.mem_append_left _ (List.mem_append_left _ (List.mem_append_left _ hp)))).2
  have ap : ∀ p ∈ hd ++ tl ++ cs, p.1 ∉ A.map (·.1) := fun p hp q => by
    have nd := c.nd
    rw [List.append_assoc, List.append_assoc, List.map_append, List.nodup_append] at nd
    exact nd.2.2 p.1 q p.1 (List.mem_map.mpr ⟨p, by rw [← List.append_assoc]; exact hp, rfl⟩) rfl
  refine ⟨⟨?_, fun b o e => k b o (fun q => by rw [(inA b q).2] at e; cases e) (c.fr.keep b o e), c.fr.above⟩, fun p hp => ?_, ?_, c.lr, c.sr, c.sh.gens, c.sh.drawn, c.sh.os⟩
  · obtain ⟨o, es, ep, e, r⟩ := c.fr.ns
    exact ⟨o, es, ep, k _ _ (fun q => (inA _ q).1 rfl) e, r⟩
  · have h1 := c.nw p (by rw [List.append_assoc, List.append_assoc]; exact List.mem_append_right _ (by rw [← List.append_assoc]; exact hp))
    exact ⟨k _ _ (ap p hp) h1.1, h1.2⟩
  · have nd := c.nd
    rw [List.append_assoc, List.append_assoc, List.map_append, List.nodup_append] at nd
    rw [List.append_assoc]; exact nd.2.1
noncomputable abbrev enObj (it : Addr) (i : Int) (old : Value) : Obj := { cls := .type "enumerate", dict := none, data := .fields #[.none, .bool false, .ref it, rawInt i, .none, old], slots := #[] }
noncomputable def enumAV (items : List AV) : List AV := items.mapIdx fun i a => .tup [.int (i : Int), a]
theorem enum_get {items : List AV} {k : Nat} {av : AV} (h : (enumAV items)[k]? = some av) : ∃ a, items[k]? = some a ∧ av = .tup [.int (k : Int), a] := by
  unfold enumAV at h
  rw [List.getElem?_mapIdx, Option.map_eq_some_iff] at h
  obtain ⟨a, h1, h2⟩ := h
  exact ⟨a, h1, h2.symm⟩
theorem enum_len (items : List AV) : (enumAV items).length = items.length := List.length_mapIdx
noncomputable def PE (e it l : Addr) (ol : Obj) (j : Option Nat) (ld : Led) : Prop := match j with
  | none => ld = [(l, ol)]
  | some k => ∃ old oi, ld = [(e, enObj it k old), (it, oi), (l, ol)] ∧ oi.cls = .type "list_iterator" ∧ oi.data = .fields #[.ref l, .int (k : Int) 0]
section
variable {W : Wd} {Γ : Fc} {n : Nat} {m : Loc} {S : Store} {X : Int → Prop} {Q : AV → Store → Prop}
theorem itr_enum {es : List Expr} {kk : Nat} {p : Pos} {e it l : Addr} {vs : List Value} {c0 : Nat} {items : List AV} {tl0 : Led} (hei : e ≠ it) (hle : l ≠ e) (hli : l ≠ it) (r : VRs W.b tl0 vs items) :
    Itr W Γ n (.Tuple es kk p) (.ref e) (enumAV items) tl0 (fun S' => upd S' l (.lst items)) (PE e it l (listOf vs.toArray c0)) := by
  have e1 := r.length
  have walk : ∀ B : Around, B.handled = none → _ := fun B hB => WalksT.enumerate (prog := W.prog) (w := W.w) (A := B) hB e it l hei hle hli vs.toArray
  have state : ∀ {k : Nat} {old : Value} {oi : Obj} {hd tl cs : Led} {m : Loc} {S : Store} {mc : Str → Option Value} {s : Shared}, StC W Γ ([(e, enObj it k old), (it, oi), (l, listOf vs.toArray c0)] ++ hd) tl m S mc cs s → oi.cls = .type "list_iterator" → oi.data = .fields #[.ref l, .int (k : Int) 0] →
      (∃ old, IsEnum s.heap e it k old) ∧ s.heap.IsListIter it l k ∧ s.heap.IsList l vs.toArray := by
    intro k old oi hd tl cs m S mc s c h1 h2
    have g := fun p hp => (c.nw p (List.mem_append_left _ (List.mem_append_left _ (List.mem_append_left _ hp)))).1
    exact ⟨⟨old, g _ (.head _)⟩, ⟨oi, g _ (.tail _ (.head _)), h1, h2⟩, ⟨_, g _ (.tail _ (.tail _ (.head _))), rfl, c0, rfl⟩⟩
  constructor
  · intro k ld B hd tl m S s Q R E E' hW hΓ pp x hB st av hav hR h
    obtain ⟨old, oi, rfl, h1, h2⟩ := pp
    obtain ⟨mc, cs, c⟩ := st
    obtain ⟨a, ha, rfl⟩ := enum_get hav
    have hlt := (List.getElem?_eq_some_iff.mp ha).1
    refine (walk B hB.handled).item k s _ _ (by rw [List.size_toArray, e1]; exact hlt) (state c h1 h2) fun T vals h' tk hp hT hTup hMid hk => hR (.ref T) _ ?_
    obtain ⟨t, xv, hx, rfl⟩ := hp
    have hap := (walk B hB.handled).apart k T h' hMid
    refine (walk B hB.handled).go es kk p k T _ _ _ hMid fun h2' hst hk2 => ?_
    obtain ⟨⟨old', hen⟩, ⟨oi', hoi, hc', hd'⟩, _⟩ := hst
    have keep : ∀ b o, b ∉ [e, it] → s.heap.get? b = some o → h2'.get? b = some o := fun b o hb hbo => hk2 b o hb (hk b o hb hbo)
    have c1 := StC.moved (A := [(e, enObj it k old), (it, oi)]) (A' := [(e, enObj it ((k + 1 : Nat) : Int) old'), (it, oi')]) (hd := (l, listOf vs.toArray c0) :: hd) (s := s) c rfl tk keep (h' := h2') (fun p hp => by
      rcases List.mem_cons.mp hp with rfl | hp
      · exact hen
      · rw [List.mem_singleton] at hp; subst hp; exact hoi)
    obtain ⟨oT, hoT, hcT, nT, hdT⟩ := hTup
    have hoT2 : h2'.get? T = some oT := hk2 T oT hap hoT
    have c2 := c1.newT (tk := tk) (l := T) (o := oT) (h' := h2') c1.fr (fun p hp => by
      rcases List.mem_cons.mp hp with rfl | hp
      · refine ⟨hoT2, fun q => ?_, ?_⟩
        · have := c.fr.ns.lt
          rw [← q] at this
          exact absurd this (Nat.not_lt.mpr hT)
        · cases q : Γ.g.get? T with
          | none => rfl
          | some o => exact absurd (Heap.lt_size (c.fr.keep _ _ q)) (Nat.not_lt.mpr hT)
      · exact c1.nw p hp) (fun p hp => by
        have hm : p.1 ∈ ([(e, enObj it k old), (it, oi)] ++ (l, listOf vs.toArray c0) :: hd ++ tl ++ cs).map (·.1) := by
          have h3 : ([(e, enObj it ((k + 1 : Nat) : Int) old'), (it, oi')] ++ (l, listOf vs.toArray c0) :: hd ++ tl ++ cs).map (·.1) = ([(e, enObj it k old), (it, oi)] ++ (l, listOf vs.toArray c0) :: hd ++ tl ++ cs).map (·.1) := by simp only [List.map_append, List.map_cons, List.map_nil]
          rw [← h3]; exact List.mem_map.mpr ⟨p, hp, rfl⟩
        obtain ⟨q, hq, eq⟩ := List.mem_map.mp hm
        rw [← eq]
        exact Nat.lt_of_lt_of_le (Heap.lt_size (c.nw q hq).1) hT)
    obtain ⟨v', hv', rv⟩ := r.get ha
    have hxv : xv = v' := by
      have : vs[k]? = some xv := by simpa using hx
      rw [hv'] at this; exact (Option.some.inj this).symm
    subst hxv
    exact h (.ref T) _ _ _ ⟨old', oi', rfl, hc', hd'⟩ (Ext.cons _ _) ⟨mc, cs, c2⟩ (.tup T [.int (k : Int) t, xv] _ (.inr ⟨oT, nT, .head _, hcT, hdT⟩) (.cons _ _ _ _ (.int _ _) (.cons _ _ _ _ (rv.ext (x.trans (Ext.cons _ _))) .nil)))
  · intro k ld B hd tl m S s Q E hW hΓ pp x hB st hk h
    obtain ⟨old, oi, rfl, h1, h2⟩ := pp
    obtain ⟨mc, cs, c⟩ := st
    have hk' : k = vs.toArray.size := by rw [List.size_toArray, e1, ← hk, enum_len]
    subst hk'
    refine (walk B hB.handled).done s _ _ (state c h1 h2) fun h' tk k' => ?_
    exact h [(l, listOf vs.toArray c0)] _ rfl ⟨mc, cs, StC.dropA (A := [(e, enObj it _ old), (it, oi)]) (hd := (l, listOf vs.toArray c0) :: hd) c tk k'⟩
  · intro k ld B hd tl m S s Q E hW hΓ pp x hB st h
    obtain ⟨old, oi, rfl, h1, h2⟩ := pp
    obtain ⟨mc, cs, c⟩ := st
    exact (walk B hB.handled).self k s _ _ (state c h1 h2) h
  · intro j ld hd tl m S s pp x st
    cases j with
    | none =>
      cases pp
      exact ⟨St.unhide st (.lst vs c0 _ (r.ext x)), fun y ao e => by rw [upd_ne (St.notHid st e)]; exact e⟩
    | some k =>
      obtain ⟨old, oi, rfl, h1, h2⟩ := pp
      obtain ⟨mc, cs, c⟩ := st
      have st2 : St W Γ ((l, listOf vs.toArray c0) :: hd) tl m S s := ⟨mc, cs, StC.dropA (A := [(e, enObj it _ old), (it, oi)]) (hd := (l, listOf vs.toArray c0) :: hd) c s.toks fun _ _ _ q => q⟩
      exact ⟨St.unhide st2 (.lst vs c0 _ (r.ext x)), fun y ao e => by rw [upd_ne (St.notHid st2 e)]; exact e⟩
theorem f_enum {es : List Expr} {kk : Nat} {p : Pos} {l : Addr} {items : List AV} (el : S l = some (.lst items)) (q : ∀ e S1, Src W Γ n (.Tuple es kk p) (.ref e) (enumAV items) S1 (del S l) (fun S' => upd S' l (.lst items)) → Q (.ref e) S1) : WF W Γ n (.type "enumerate") [.ref l] m S Q X := fun _ _ B hd tl s _ hB st r => by
  cases r with
  | cons v _ _ _ rv rr =>
  cases rr; apply VR.on_ref rv
  obtain ⟨mc, cs, c⟩ := id st
  obtain ⟨vs, k, hm, r, hl⟩ := c.lst el
  refine call_enumerate_list hl fun h' hen ⟨oi, hoi, hci, hdi⟩ hsz keep => ?_
  have F1 := c.fr.keeps keep
  have hnew : ∀ b, s.heap.objs.size ≤ b → b ≠ Γ.L ∧ Γ.g.get? b = none := fun b hb => by
    refine ⟨fun q => ?_, ?_⟩
    · have := c.fr.ns.lt; rw [← q] at this; exact absurd this (Nat.not_lt.mpr hb)
    · cases q : Γ.g.get? b with
      | none => rfl
      | some o => exact absurd (Heap.lt_size (c.fr.keep b o q)) (Nat.not_lt.mpr hb)
  obtain ⟨c1, n1⟩ := c.new (tk := s.toks) (l := s.heap.objs.size) (o := oi) (h' := h') F1 (fun p hp => by
    rcases List.mem_cons.mp hp with rfl | hp
    · exact ⟨hoi, hnew _ (Nat.le_refl _)⟩
    · exact ⟨keep _ _ (c.nw p hp).1, (c.nw p hp).2⟩) (fun p hp => Heap.lt_size (c.nw p hp).1) (.raw _)
  obtain ⟨c2, n2⟩ := c1.new (tk := s.toks) (l := s.heap.objs.size + 1) (o := enObj s.heap.objs.size 0 .none) (h' := h') F1 (fun p hp => by
    rcases List.mem_cons.mp hp with rfl | hp
    · exact ⟨hen, hnew _ (Nat.le_succ _)⟩
    · exact c1.nw p hp) (fun p hp => by
      rcases List.mem_append.mp hp with hp | hp
      · exact Nat.lt_succ_of_lt (Heap.lt_size (c.nw p (List.mem_append_left _ hp)).1)
      · rcases List.mem_cons.mp hp with rfl | hp
        · exact Nat.lt_succ_self _
        · exact Nat.lt_succ_of_lt (Heap.lt_size (c.nw p (List.mem_append_right _ hp)).1)) (.raw _)
  have hlt : l < s.heap.objs.size := by obtain ⟨o, ho, _⟩ := hl; exact Heap.lt_size ho
  generalize s.heap.objs.size = it at *
  refine ⟨.ref (it + 1), _, tl, Ext.refl _, ⟨mc, _, c2⟩, .ref _, q _ _ ?_⟩
  have hei : it + 1 ≠ it := Nat.succ_ne_self it
  have hli : l ≠ it := Nat.ne_of_lt hlt
  have hle : l ≠ it + 1 := Nat.ne_of_lt (Nat.lt_succ_of_lt hlt)
  have n2' : S (it + 1) = none := by rw [upd_ne hei] at n2; exact n2
  clear c2 c1 c hl hm F1 hnew hen keep hoi r n2
  intro B hd tl m s v Q E hW hΓ hB st rv h
  apply VR.on_ref rv
  obtain ⟨mc, cs, c⟩ := id st
  obtain ⟨o, ho, ro⟩ := c.obj (a := it + 1) (upd_same _ _ _)
  cases ro
  obtain ⟨o, ho2, ro⟩ := c.obj (a := it) (by rw [upd_ne hei.symm, upd_same])
  cases ro
  have el2 : (upd (upd S it (.raw oi)) (it + 1) (.raw (enObj it 0 .none))) l = some (.lst items) := by rw [upd_ne hle, upd_ne hli]; exact el
  obtain ⟨vs, k, hm, r, hl⟩ := c.lst el2
  obtain ⟨cs1, c1⟩ := c.hide hm
  have m2 : (it, oi) ∈ cs1 := by
    obtain ⟨o, ho, ro⟩ := c1.obj (a := it) (by unfold del; rw [if_neg hli.symm, upd_ne hei.symm, upd_same])
    cases ro; exact ho
  obtain ⟨cs2, c2⟩ := c1.hide m2
  have m3 : (it + 1, enObj it 0 .none) ∈ cs2 := by
    obtain ⟨o, ho, ro⟩ := c2.obj (a := it + 1) (by unfold del; rw [if_neg hei, if_neg hle.symm, upd_same])
    cases ro; exact ho
  obtain ⟨cs3, c3⟩ := c2.hide m3
  have hen : s.heap.get? (it + 1) = some (enObj it 0 .none) := (c.nw _ (List.mem_append_right _ ho)).1
  have hS : del (del (del (upd (upd S it (.raw oi)) (it + 1) (.raw (enObj it 0 .none))) l) it) (it + 1) = del S l := by
    funext b
    show (if b = it + 1 then none else if b = it then none else if b = l then none else if b = it + 1 then _ else if b = it then _ else S b) = if b = l then none else S b
    by_cases h1 : b = it + 1
    · subst h1; rw [if_pos rfl, if_neg hle.symm]; exact n2'.symm
    · rw [if_neg h1]
      by_cases h2 : b = it
      · subst h2; rw [if_pos rfl, if_neg hli.symm]; exact n1.symm
      · rw [if_neg h2, if_neg h1, if_neg h2]
  rw [hS] at c3
  refine (WalksT.enumerate (prog := W.prog) (w := W.w) (A := B) hB.handled (it + 1) it l hei hle hli vs.toArray).self 0 s _ _ ⟨⟨_, hen⟩, ⟨oi, (c.nw _ (List.mem_append_right _ ho2)).1, hci, hdi⟩, hl⟩ ?_
  exact h (.ref (it + 1)) tl _ [(it + 1, enObj it 0 .none), (it, oi), (l, listOf vs.toArray k)] s (itr_enum hei hle hli r) ⟨_, _, rfl, hci, hdi⟩ (Ext.refl _) ⟨mc, _, c3⟩
end
end
section
open PySem PySem.W PySem.Calls PyProof.Rows PySem.NumText
theorem lk_list_keys : typeLookup (.type "list") "keys" = pure none := by rw [typeLookup_type, builtinLookup_eq_fast]; kernel_rfl
theorem lk_list_getattr : typeLookup (.type "list") "__getattr__" = pure none := by rw [typeLookup_type, builtinLookup_eq_fast]; kernel_rfl
theorem sub_ae : isSubtype (.type "AttributeError") (.type "AttributeError") = pure true := by rw [isSubtype_type]; kernel_rfl
section
variable {prog : Program} {w : World} {A : Around} {E : Value → Shared → Prop} {s : Shared}
theorem attr_err {α : Type} {a : Addr} {name msg : Str} {Q : α → Shared → Prop} (hm : msg.length ≤ sizeLine) (hh : A.handled = none)
    (hE : ∀ h' e t', (∀ b o, s.heap.get? b = some o → h'.get? b = some o) → (∃ o, h'.get? e = some o ∧ o.cls = .type "AttributeError") → E (.ref e) { s with heap := h', toks := t' }) :
    wpAny (model prog w) A (raiseAttrError (.ref a) name msg : Sem α) Q E s := by
  unfold raiseAttrError
  refine wpAny_bind (wpAny_mkStr (wpAny_bind ?_) hm)
  unfold newExc newTuple
  refine wpAny_bind (wpAny_newObj_type ?_)
  refine wpAny_bind (m := firstArgMember _ _) (wpAny_of_eq (a := Value.none) (by kernel_rfl) ?_)
  refine wpAny_newObj_type ?_
  refine wpAny_bind (wpAny_mkText (wpAny_bind ?_))
  dsimp only
  generalize hH1 : s.heap.push { cls := Value.type "tuple", data := Data.seq [Value.str msg s.toks].toArray } = H1
  have up1 : ∀ b o, s.heap.get? b = some o → H1.get? b = some o := fun b o q => by rw [← hH1]; exact Heap.get?_push_of_some _ q
  have hx := Heap.get?_push_size H1 (o := { cls := .type "AttributeError", data := .fields #[.ref s.heap.objs.size, .none, .none, .none, .bool false, .none, .int 0 0, .int 0 0] }) rfl
  show wpAny _ _ (noteAttr (.ref H1.objs.size) (.ref a) _) _ _ { s with heap := H1.push { cls := .type "AttributeError", data := .fields #[.ref s.heap.objs.size, .none, .none, .none, .bool false, .none, .int 0 0, .int 0 0] }, toks := s.toks + 1 + 1 }
  have up2 : ∀ b o, H1.get? b = some o → (H1.push { cls := .type "AttributeError", data := .fields #[.ref s.heap.objs.size, .none, .none, .none, .bool false, .none, .int 0 0, .int 0 0] }).get? b = some o := fun b o q => Heap.get?_push_of_some _ q
  have hne : ∀ b o, H1.get? b = some o → b ≠ H1.objs.size := fun b o q => Nat.ne_of_lt (Heap.lt_size q)
  generalize H1.push { cls := .type "AttributeError", data := .fields #[.ref s.heap.objs.size, .none, .none, .none, .bool false, .none, .int 0 0, .int 0 0] } = H2 at *
  generalize H1.objs.size = e at *
  unfold noteAttr
  refine wpAny_bind ?_
  unfold lacksNameAndObj
  refine wpAny_bind (wpAny_isInstance (T := "AttributeError") (b := true) ⟨_, hx, rfl⟩ sub_ae ?_)
  refine wpAny_ite_split (fun q => absurd q (by decide)) fun _ => ?_
  refine wpAny_bind (wpAny_load hx ?_)
  dsimp only
  refine wpAny_ite_split (fun q => absurd (show (false : Bool) = true from q) (by decide)) fun _ => ?_
  refine wpAny_ite_split (fun q => absurd (show (false : Bool) = true from q) (by decide)) fun _ => ?_
  refine wpAny_pure ?_
  refine wpAny_ite_split (fun _ => ?_) fun q => absurd rfl q
  refine wpAny_bind (wpAny_rule ?_)
  refine wpAny_bind (wpAny_typeOf (T := "AttributeError") ⟨_, hx, rfl⟩ ?_)
  refine wpAny_layMembers hx rfl ?_
  unfold raiseNew
  refine wpAny_bind (wpAny_handled ?_)
  rw [hh]
  have fin : ∀ h' t', (∀ b o, s.heap.get? b = some o → h'.get? b = some o) → (∃ o, h'.get? e = some o ∧ o.cls = .type "AttributeError") → E (.ref e) { s with heap := h', toks := t' } := fun h' t' => hE h' e t'
  first
    | refine wpAny_throw ?_
    | refine wpAny_bind (wpAny_pure (wpAny_throw ?_))
  exact fin _ _ (fun b o q => by
    have h1 := up1 b o q
    exact (Heap.get?_update_ne _ _ _ _ (hne b o h1)).trans (up2 b o h1)) ⟨_, Heap.get?_update_self _ hx rfl, rfl⟩
theorem keys_entry {tk : Tok} {a : Addr} {vs : Array Value} {n : Nat} {Q : PySem.Fin → Shared → Prop} (hh : A.handled = none) (hx : s.heap.get? a = some (listOf vs n))
    (hE : ∀ h' e t', (∀ b o, s.heap.get? b = some o → h'.get? b = some o) → (∃ o, h'.get? e = some o ∧ o.cls = .type "AttributeError") → E (.ref e) { s with heap := h', toks := t' }) :
    wpAny (model prog w) A (Builtin.«object.__getattribute__» ⟨[.ref a, .str "keys" tk], []⟩) Q E s := by
  have hT : s.TypeIs (.ref a) "list" := ⟨_, hx, rfl⟩
  have f4 := lk_list_keys
  obtain ⟨h, g, d, t, os⟩ := s
  repeat (any_goals (first | assumption | wp_step))
  exact attr_err (Nat.le_of_ble_eq_true (by kernel_rfl)) hh hE
theorem keys_miss {a : Addr} {vs : Array Value} {n : Nat} {Q : Option Value → Shared → Prop} (hh : A.handled = none) (hx : s.heap.get? a = some (listOf vs n))
    (hQ : ∀ h' t', (∀ b o, s.heap.get? b = some o → h'.get? b = some o) → Q none { s with heap := h', toks := t' }) :
    wpAny (model prog w) A (getAttr? (.ref a) "keys") Q E s := by
  have hT : s.TypeIs (.ref a) "list" := ⟨_, hx, rfl⟩
  have f2 := PySem.F.slot_list_getattribute.lookup
  have f3 := PySem.F.slot_list_getattribute.bind (.ref a)
  have f5 := lk_list_getattr
  have by_ : ∀ (t : Nat) (R : Result → Shared → Prop) (tk : Tok), (∀ h' e t', (∀ b o, s.heap.get? b = some o → h'.get? b = some o) → (∃ o, h'.get? e = some o ∧ o.cls = .type "AttributeError") → R (.error (.ref e)) { s with heap := h', toks := t' }) →
      ∀ A : Around, A.handled = none → codeAny (model prog w) A (.call (.builtin "list.__getattribute__") ⟨[.ref a, .str "keys" tk], []⟩) R { s with toks := t } := fun t R tk hR A hh =>
    codeAny_call_builtin PySem.F.slot_list_getattribute.plain PySem.F.entry_list_ga (PySem.F.slot_list_getattribute.check _ _ _ _ _ _ _ _ (show ({ s with toks := t } : Shared).TypeIs (.ref a) "list" from ⟨_, hx, rfl⟩) (PySem.F.args_list_getattribute_2 _ _) (keys_entry (s := { s with toks := t }) hh hx hR))
  obtain ⟨h, g, d, t, os⟩ := s
  repeat (any_goals (first | assumption | wp_step))
  refine by_ (t + 1) _ t (fun h' e t' hk he => ?_) A hh
  obtain ⟨oe, hoe, hce⟩ := he
  have hTe : (⟨h', g, d, t', os⟩ : Shared).TypeIs (.ref e) "AttributeError" := ⟨oe, hoe, hce⟩
  have hsub := sub_ae
  dsimp only
  repeat (any_goals (first | assumption | wp_step))
  exact hQ h' t' hk
theorem entry_dul : entryFor table "dict.update.loop" = some Builtin.«dict.update.loop» := entryFor_of_tree (by kernel_rfl)
theorem plain_dul : plainId "dict.update.loop" = true := by decide +kernel
theorem dul_loop {R : Result → Shared → Prop} (hh : A.handled = none) {h0 : Heap} {I l D : Addr} {vs : List Value} {kvs : List (Str × Value)} (hIl : l ≠ I) (hDI : D ≠ I) (hDl : D ≠ l) (hl0 : vs.length = kvs.length) (hz : vs.length ≤ 10000)
    (h0D : h0.get? D = none) (h0I : h0.get? I = none) (nd : (kvs.map (·.1)).Nodup)
    (pairs : ∀ (i : Nat) (v : Value), vs[i]? = some v → ∃ T x tx u, v = .ref T ∧ IsTup h0 T #[.str x tx, u] ∧ kvs[i]? = some (x, u))
    (hR : ∀ h' tk, h'.DictOf (strKind prog w) D kvs → (∀ b o, h0.get? b = some o → h'.get? b = some o) → R (.ok (.ret .none)) { s with heap := h', toks := tk }) :
    ∀ (k i : Nat) (h : Heap) (tk : Nat) (j : Int) (tj : Tok), vs.length - i = k → i ≤ vs.length → (h.IsListIter I l i ∧ h.IsList l vs.toArray) → h.DictOf (strKind prog w) D (kvs.take i) → (∀ b o, h0.get? b = some o → h.get? b = some o) →
      codeAny (model prog w) A (.builtin "dict.update.loop" ⟨[.ref D, .ref I, .int j tj, .none], []⟩) R { s with heap := h, toks := tk } := by
  have W := Walks.list (prog := prog) (w := w) (A := A.in1) hh I l hIl vs.toArray
  intro k
  induction k with
  | zero =>
    intro i h tk j tj hk hi hst hD hkeep
    have hin : i = vs.toArray.size := by rw [List.size_toArray]; lia
    subst hin
    refine codeAny_builtin entry_dul ?_
    rw [Around.under_plainId plain_dul _]
    show wpAny _ A.in1 (pyNext (.ref I) >>= _) _ _ _
    refine wpAny_bind (W.done { s with heap := h, toks := tk } _ _ hst fun h' tk' hk' => ?_)
    refine wpAny_bind (wpAny_pure (wpAny_pure (hR h' tk' ?_ fun b o e => hk' b o (fun q => ?_) (hkeep b o e))))
    · rw [List.take_of_length_le (by rw [List.size_toArray]; lia)] at hD
      obtain ⟨o, es, ep, ho, r⟩ := hD
      exact ⟨o, es, ep, hk' D o (by simpa using hDI) ho, r⟩
    · rw [List.mem_singleton] at q; subst q; rw [h0I] at e; cases e
  | succ k ih =>
    intro i h tk j tj hk hi hst hD hkeep
    have hlt : i < vs.length := by lia
    refine codeAny_builtin entry_dul ?_
    rw [Around.under_plainId plain_dul _]
    show wpAny _ A.in1 (pyNext (.ref I) >>= _) _ _ _
    refine wpAny_bind (W.item i { s with heap := h, toks := tk } _ _ (by simpa using hlt) hst fun v h' tk' hP hst' hk' => ?_)
    obtain ⟨T, x, tx, u, rfl, hT, hkv⟩ := pairs i v (by simpa using hP)
    have hkeep' : ∀ b o, h0.get? b = some o → h'.get? b = some o := fun b o e => hk' b o (fun q => by rw [List.mem_singleton] at q; subst q; rw [h0I] at e; cases e) (hkeep b o e)
    have hT' : IsTup h' T #[.str x tx, u] := hT.keeps hkeep'
    obtain ⟨oT, hoT, hcT, nT, hdT⟩ := hT'
    have hTy : ({ s with heap := h', toks := tk' } : Shared).TypeIs (.ref T) "tuple" := ⟨oT, hoT, hcT⟩
    have hD' : h'.DictOf (strKind prog w) D (kvs.take i) := by
      obtain ⟨o, es, ep, ho, r⟩ := hD
      exact ⟨o, es, ep, hk' D o (by simpa using hDI) ho, r⟩
    show wpAny _ A.in1 (holding [Value.ref T] _ >>= _) _ _ _
    refine wpAny_bind (wpAny_holding ?_)
    have hst2 : stored (kvs.take i) x u = kvs.take (i + 1) := by
      unfold stored
      rw [if_neg, List.take_add_one, hkv]
      · rfl
      · rw [List.any_eq_true]
        rintro ⟨p, hp, hpx⟩
        have hpx' : p.1 = x := of_decide_eq_true hpx
        obtain ⟨j', hj'⟩ := List.mem_iff_getElem?.mp hp
        rw [List.getElem?_take] at hj'
        split at hj'
        · rename_i hji
          have e1 : (kvs.map (·.1))[j']? = some x := by rw [List.getElem?_map, hj']; show some p.1 = some x; rw [hpx']
          have e2 : (kvs.map (·.1))[i]? = some x := by rw [List.getElem?_map, hkv]; rfl
          have := (List.getElem?_inj (by rw [List.length_map]; have := (List.getElem?_eq_some_iff.mp hkv).1; lia) nd).mp (e1.trans e2.symm)
          lia
        · cases hj'
    have fin : wpAny (model prog w) A.in1 (dictSet D (.str x tx) u) (fun _ s' => wpAny (model prog w) A.in1 (again (.builtin "dict.update.loop" ⟨[.ref D, .ref I, rawInt (j + 1), .none], []⟩)) (fun fin s' => match fin with | .done f => R (.ok f) s' | .again c' => c'.quiet = true ∧ codeAny (model prog w) A c' R s') (fun e s' => R (.error e) s') s') (fun e s' => R (.error e) s') { s with heap := h', toks := tk' } := by
      refine wpAny_dictSet_pairs (knd := strKind prog w) (strKind_is prog w x tx) hD' (fun h2 hd2 hs2 => ?_) (by rw [List.length_take, sizeLine_eq]; lia)
      rw [hst2] at hd2
      exact wpAny_pure ⟨plainId_quiet plain_dul _, ih (i + 1) h2 _ _ _ (by lia) hlt ⟨hst'.1.at fun o e => (hs2.2 I hDI.symm).trans e, hst'.2.at fun o e => (hs2.2 l hDl.symm).trans e⟩ hd2 fun b o e => (hs2.2 b (fun q => by subst q; rw [h0D] at e; cases e)).trans (hkeep' b o e)⟩
    unfold Builtin.Dict.pairItems
    refine wpAny_bind (wpAny_tryCatch (wpAny_bind (wpAny_typeOf hTy ?_)))
    refine wpAny_ite_split (fun _ => ?_) fun q => absurd rfl q
    refine wpAny_bind (wpAny_seqItems hoT hdT (wpAny_pure ?_))
    show wpAny _ _ (holding _ (dictSet D (.str x tx) u)) _ _ _
    exact wpAny_holding fin
end
end
section
open PySem PySem.W PySem.Calls PyProof.Rows PySem.NumText
section
variable {prog : Program} {w : World} {A : Around} {E : Value → Shared → Prop} {s : Shared}
theorem dict_pairs {l : Addr} {c0 : Nat} {vs : List Value} {kvs : List (Str × Value)} {Q : Value → Shared → Prop} (hh : A.handled = none) (hl : s.heap.get? l = some (listOf vs.toArray c0)) (hl0 : vs.length = kvs.length) (hz : vs.length ≤ 10000) (nd : (kvs.map (·.1)).Nodup)
    (pairs : ∀ (i : Nat) (v : Value), vs[i]? = some v → ∃ T x tx u, v = .ref T ∧ IsTup s.heap T #[.str x tx, u] ∧ kvs[i]? = some (x, u))
    (hR : ∀ h' tk, h'.DictOf (strKind prog w) s.heap.objs.size kvs → (∀ b o, s.heap.get? b = some o → h'.get? b = some o) → Q (.ref s.heap.objs.size) { s with heap := h', toks := tk }) :
    wpAny (model prog w) A (call (.type "dict") [.ref l]) Q E s := by
  refine callType_codes (Q₁ := fun obj s₁ => obj = .ref s.heap.objs.size ∧ s₁ = { s with heap := s.heap.push { cls := .type "dict", data := .dict #[] } }) PySem.F.kt_called_dict (PySem.F.kt_typeCall_dict_1 _) PySem.F.entry_dict_init (kt_code_dict_new _ ⟨rfl, rfl⟩) ?_
  rintro obj s₁ ⟨rfl, rfl⟩
  have hnew : (s.heap.push { cls := .type "dict", data := .dict #[] }).DictOf (strKind prog w) s.heap.objs.size [] := Heap.DictOf.new s.heap
  have hlt : l < s.heap.objs.size := Heap.lt_size hl
  have hl' : (s.heap.push { cls := .type "dict", data := .dict #[] }).get? l = some (listOf vs.toArray c0) := Heap.get?_push_of_some _ hl
  have hD0 : s.heap.get? s.heap.objs.size = none := Heap.get?_none_of_le (Nat.le_refl _)
  refine ⟨hnew.typeIs, PySem.F.args_dict_init_2 _ _, ?_⟩
  have up : ∀ b o, s.heap.get? b = some o → (s.heap.push { cls := .type "dict", data := .dict #[] }).get? b = some o := fun b o e => Heap.get?_push_of_some _ e
  unfold Builtin.«dict.__init__»
  refine wpAny_bind ?_
  unfold Builtin.Dict.selfAndRest
  refine wpAny_bind (wpAny_notOrdered_dict hnew.typeIs ?_)
  show wpAny _ _ (pure (s.heap.objs.size, [Value.ref l])) _ _ _
  refine wpAny_pure ?_
  show wpAny _ _ (Builtin.Dict.updateFrom "dict.__init__" s.heap.objs.size (.ref l) [] .none) _ _ _
  generalize hH : s.heap.push { cls := .type "dict", data := .dict #[] } = H at *
  have hHz : H.objs.size = s.heap.objs.size + 1 := by rw [← hH, Heap.size_push]
  unfold Builtin.Dict.updateFrom
  refine wpAny_bind (wpAny_typeOf (T := "list") ⟨_, hl', rfl⟩ ?_)
  refine wpAny_ite_split (fun _ => ?_) fun q => absurd (by decide : (Value.type "list" != Value.type "dict") = true) q
  refine wpAny_bind (keys_miss (A := A.in1.in1) hh hl' fun h2 t2 k2 => ?_)
  refine wpAny_ite_split (fun _ => ?_) fun q => absurd rfl q
  refine wpAny_bind (wpAny_rule ?_)
  have hl2 : h2.get? l = some (listOf vs.toArray c0) := k2 _ _ hl'
  have hlist : h2.IsList l vs.toArray := ⟨_, hl2, rfl, c0, rfl⟩
  refine wpAny_bind (wpAny_pyIter_list hlist ?_)
  have hD2 : h2.DictOf (strKind prog w) s.heap.objs.size [] := by
    obtain ⟨o, es, ep, ho, r⟩ := hnew
    exact ⟨o, es, ep, k2 _ _ ho, r⟩
  have hDlt : s.heap.objs.size < h2.objs.size := by obtain ⟨o, es, ep, ho, r⟩ := hD2; exact Heap.lt_size ho
  have hI0 : s.heap.get? h2.objs.size = none := by
    cases q : s.heap.get? h2.objs.size with
    | none => rfl
    | some o => exact absurd (Heap.lt_size (k2 _ _ (up _ _ q))) (Nat.lt_irrefl _)
  refine wpAny_pure ⟨plainId_quiet plain_dul _, dul_loop (s := s) (h0 := s.heap) (A := A.in1) hh (Nat.ne_of_lt (Heap.lt_size hl2)) (Nat.ne_of_lt hDlt) (Nat.ne_of_gt hlt) hl0 hz hD0 hI0 nd pairs (fun h' tk hd hk => ⟨rfl, hR h' tk hd hk⟩) vs.length 0 _ t2 0 0 (Nat.sub_zero _) (Nat.zero_le _)
    ⟨⟨_, Heap.get?_push_size _ rfl, rfl, rfl⟩, hlist.push _⟩ ?_ fun b o e => Heap.get?_push_of_some _ (k2 _ _ (up _ _ e))⟩
  obtain ⟨o, es, ep, ho, r⟩ := hD2
  exact ⟨o, es, ep, Heap.get?_push_of_some _ ho, r⟩
end
theorem er_of {prog : Program} {w : World} {b : Heap} {tl : Led} {es : List DictEntry} {kvs : List (Str × Value)} {l : List (List Nat × AV)} (hp : Pairs (strKind prog w) es kvs) : (∀ e ∈ es, ∃ k, (strKind prog w).is k e.key = true ∧ e.hash = (strKind prog w).hash k) → kvs.map (fun p => p.1.cps.toList) = l.map (·.1) →
    VRs b tl (kvs.map (·.2)) (l.map (·.2)) → ER b tl w.params es (l.map fun p => (.str p.1, p.2))
 := by
  induction hp generalizing l with
  | nil =>
    intro _ h _
    cases l with
    | nil => exact .nil
    | cons _ _ => cases h
  | cons h1 h2 h3 ih =>
    rename_i e kv es kvs
    intro hk hm hv
    cases l with
    | nil => cases hm
    | cons p l =>
      obtain ⟨y, av⟩ := p
      obtain ⟨hm1, hm2⟩ := List.cons.inj hm
      apply VRs.on_cons' hv; intro rv rr
      obtain ⟨k, hk1, hk2⟩ := hk e (.head _)
      obtain ⟨t, ht⟩ := Value.isStrOf_shape h1
      obtain ⟨t2, ht2⟩ := Value.isStrOf_shape hk1
      rw [ht] at ht2
      have hkk : k = kv.1 := by injection ht2 with q; exact q.symm
      obtain ⟨hsh, key, val⟩ := e
      dsimp only at ht hk2 h2
      subst ht h2 hkk
      rw [hk2]
      exact .str kv.1 t y kv.2 av es _ hm1 rv (ih (fun e he => hk e (.tail _ he)) hm2 rr)
section
variable {W : Wd} {Γ : Fc} {n : Nat} {m : Loc} {S : Store} {X : Int → Prop} {Q : AV → Store → Prop}
theorem f_dict_pairs {l : Addr} {ps : List (List Nat × AV)} (e : S l = some (.lst (ps.map fun p => .tup [.str p.1, p.2]))) (hz : ps.length ≤ 10000) (nd : (ps.map (·.1)).Nodup)
    (q : ∀ d, S d = none → (d == sysModules) = false → Q (.ref d) (upd S d (txD ps))) : WF W Γ n (.type "dict") [.ref l] m S Q X := fun hW hΓ B hd tl s _ hB st r => by
  cases r with
  | cons v _ _ _ rv rr =>
  cases rr; apply VR.on_ref rv
  obtain ⟨mc, cs, c⟩ := st
  obtain ⟨vs, k, hm, r, hl⟩ := c.lst e
  have hlen := r.length
  rw [List.length_map] at hlen
  have key : ∀ (ps : List (List Nat × AV)) (vs : List Value), VRs W.b tl vs (ps.map fun p => .tup [.str p.1, p.2]) → ∃ kvs : List (Str × Value), vs.length = kvs.length ∧ kvs.map (fun p => p.1.cps.toList) = ps.map (·.1) ∧ VRs W.b tl (kvs.map (·.2)) (ps.map (·.2)) ∧
      ∀ (i : Nat) (v : Value), vs[i]? = some v → ∃ T x tx u, v = .ref T ∧ IsTup s.heap T #[.str x tx, u] ∧ kvs[i]? = some (x, u) := by
    intro ps
    induction ps with
    | nil => intro vs r; cases r; exact ⟨[], rfl, rfl, .nil, fun i v h => by simp at h⟩
    | cons p ps ih =>
      intro vs r
      cases r with
      | cons v _ vs _ rv rr =>
      obtain ⟨kvs, a1, a2, a3, a4⟩ := ih vs rr
      cases rv with
      | tup T us _ ht ru =>
      cases ru with
      | cons u1 _ us _ ru1 ru2 =>
      cases ru2 with
      | cons u2 _ _ _ ru2 ru3 =>
      cases ru3
      cases ru1 with
      | str x tx _ hx =>
      refine ⟨(x, u2) :: kvs, by simp [a1], by simp [hx, a2], .cons _ _ _ _ ru2 a3, fun i v h => ?_⟩
      cases i with
      | zero => cases h; exact ⟨T, x, tx, u2, rfl, c.tup hΓ ht, rfl⟩
      | succ i => obtain ⟨T', x', tx', u', e1, e2, e3⟩ := a4 i v (by simpa using h); exact ⟨T', x', tx', u', e1, e2, by simpa using e3⟩
  obtain ⟨kvs, a1, a2, a3, a4⟩ := key ps vs r
  have nd2 : (kvs.map (·.1)).Nodup := by
    rw [← a2] at nd
    have e2 : kvs.map (fun p => p.1.cps.toList) = (kvs.map (·.1)).map (fun x => x.cps.toList) := by rw [List.map_map]; rfl
    rw [e2] at nd
    exact (List.pairwise_map.mp nd).imp fun h q => h (by rw [q])
  refine dict_pairs hB.handled (c.nw _ (List.mem_append_right _ hm)).1 a1 (by lia) nd2 a4 fun h' tk hd' keep => ?_
  obtain ⟨o, es, ep, ho, hx, hdat, hko, hpr, hn⟩ := hd'
  have ho2 : o = dictOf es.toList ep := by
    obtain ⟨h1, h2, h3⟩ := hx
    obtain ⟨oc, od, odt, osl⟩ := o
    dsimp only at h1 h2 h3 hdat
    subst h1 h2 h3 hdat
    show _ = ({ cls := .type "dict", data := .dict es.toList.toArray ep } : Obj)
    rw [Array.toArray_toList]
  subst ho2
  have er := er_of (b := W.b) (tl := tl) hpr (fun e he => hko e (by simpa using he)) a2 a3
  obtain ⟨c2, hnn⟩ := c.new (tk := tk) (c.fr.keeps keep) (fun p hp => by
    rcases List.mem_cons.mp hp with rfl | hp
    · refine ⟨ho, fun q => ?_, ?_⟩
      · have := c.fr.ns.lt
        rw [show s.heap.objs.size = Γ.L from q] at this; exact Nat.lt_irrefl _ this
      · cases q : Γ.g.get? s.heap.objs.size with
        | none => rfl
        | some o => exact absurd (Heap.lt_size (c.fr.keep _ o q)) (Nat.lt_irrefl _)
    · exact ⟨keep _ _ (c.nw p hp).1, (c.nw p hp).2⟩) (fun p hp => Heap.lt_size (c.nw p hp).1) (.dct es.toList ep _ er)
  exact ⟨.ref _, _, tl, Ext.refl _, ⟨_, _, c2⟩, .ref _, q _ hnn (c.fr.notModules (modules_low (hΓ.top hW).nolimit))⟩
end
end
section
open PySem PySem.W PySem.Calls PyProof.Rows PySem.NumText
section
variable {W : Wd} {Γ : Fc} {n : Nat} {m : Loc} {S : Store} {X : Int → Prop} {cs : Scope} {ns : List Str} {cl : List (Str × Addr)} {Q : AV → Store → Prop}
theorem e_drop {e : Expr} (h : WE W Γ n e m S (fun a S1 => ∃ S2, Subs S2 S1 ∧ Q a S2) X) : WE W Γ n e m S Q X := fun hW hΓ B hd tl s hB hs =>
  wpAny_mono (h hW hΓ B hd tl s hB hs) (fun _ _ ⟨av, _, tl', x, st, r, S2, sb, q⟩ => ⟨av, S2, tl', x, st.sub sb, r, q⟩) fun _ _ e => e
noncomputable abbrev KMapc (W : Wd) (Γ : Fc) (n : Nat) (elt tgt : Expr) (ifs : List Expr) (m : Loc) (scope : Scope) (cl : List (Str × Addr)) (QD : Addr → Store → Prop) : AV → Store → Prop := fun v S1 => ∃ items S0 fin, Src W Γ n tgt v items S1 S0 fin ∧ items.length ≤ 10000 ∧ ∃ g : AV → Option AV,
      (∀ (k : Nat) av C D acc, items[k]? = some av → C ≠ D → S0 C = none → S0 D = none → WA W (Γ.inBlk ⟨scope, cl, C⟩) n tgt av m (upd (upd S0 D (.lst acc)) C (.ns [])) (fun m1 S3 => m1 = m ∧ ∃ fs, S3 = upd (upd S0 D (.lst acc)) C (.ns fs) ∧
        IfsR W (Γ.inBlk ⟨scope, cl, C⟩) n m S3 ifs (fun c S4 => S4 = S3 ∧ c = (g av).isSome ∧ (c = true → WE W (Γ.inBlk ⟨scope, cl, C⟩) n elt m S3 (fun a S5 => g av = some a ∧ Subs S3 S5) (fun _ => False))))) ∧
      (∀ D, S0 D = none → (∀ x ao, (upd S0 D (.lst (items.filterMap g))) x = some ao → fin (upd S0 D (.lst (items.filterMap g))) x = some ao) → ∃ S3, Subs S3 (fin (upd S0 D (.lst (items.filterMap g)))) ∧ QD D S3)
theorem map_core {elt tgt : Expr} {ifs : List Expr} {scope : Scope} {cl : List (Str × Addr)} {QD : Addr → Store → Prop} {v : AV} {S1 : Store} (h : KMapc W Γ n elt tgt ifs m scope cl QD v S1) : KComp W Γ n elt tgt ifs m scope cl QD v S1 := by
  obtain ⟨items, S0, fin, src, hz, g, turn, last⟩ := h
  refine ⟨items, S0, fin, src, hz, fun C D hCD hC hD => ⟨fun k acc S2 => acc = (items.take k).filterMap g ∧ S2 = upd (upd S0 D (.lst acc)) C (.ns []), ⟨rfl, rfl⟩, ?_, ?_⟩⟩
  · rintro k acc av S2 hk ⟨hacc, rfl⟩ _ _ _ hW hΓ B hd tl s v E hB hs rv
    refine wpAny_mono (turn k av C D acc hk hCD hC hD hW hΓ B hd tl s v E hB hs rv) ?_ fun _ _ e => e
    rintro _ s' ⟨m', S', tl', x, st, rfl, fs, rfl, q⟩
    refine ⟨m', _, tl', x, st, rfl, ?_⟩
    have ht : items.take (k + 1) = items.take k ++ [av] := by rw [List.take_add_one, hk]; rfl
    have step : ∀ c, c = (g av).isSome → (c = true → WE W (Γ.inBlk ⟨scope, cl, C⟩) n elt m' (upd (upd S0 D (.lst acc)) C (.ns fs)) (fun a S5 => g av = some a ∧ Subs (upd (upd S0 D (.lst acc)) C (.ns fs)) S5) (fun _ => False)) →
        if c = true then WE W (Γ.inBlk ⟨scope, cl, C⟩) n elt m' (upd (upd S0 D (.lst acc)) C (.ns fs)) (fun a S5 => S5 D = some (.lst acc) ∧ (∃ f, S5 C = some (.ns f)) ∧ (fun k acc S2 => acc = (items.take k).filterMap g ∧ S2 = upd (upd S0 D (.lst acc)) C (.ns [])) (k + 1) (acc ++ [a]) (upd (upd S5 D (.lst (acc ++ [a]))) C (.ns []))) (fun _ => False)
        else (upd (upd S0 D (.lst acc)) C (.ns fs)) D = some (.lst acc) ∧ (∃ f, (upd (upd S0 D (.lst acc)) C (.ns fs)) C = some (.ns f)) ∧ (fun k acc S2 => acc = (items.take k).filterMap g ∧ S2 = upd (upd S0 D (.lst acc)) C (.ns [])) (k + 1) acc (upd (upd (upd S0 D (.lst acc)) C (.ns fs)) C (.ns [])) := by
      intro c hc hq
      have e1 : (upd (upd S0 D (.lst acc)) C (.ns fs)) D = some (.lst acc) := by rw [upd_ne hCD.symm, upd_same]
      cases c with
      | true =>
        rw [if_pos rfl]
        refine e_drop ((hq rfl).mono ?_)
        rintro a S5 ⟨hg, sb⟩
        refine ⟨_, sb, e1, ⟨fs, upd_same _ _ _⟩, ?_, ?_⟩
        · rw [ht, List.filterMap_append, ← hacc]; simp [hg]
        · rw [upd_comm (S := upd S0 D (.lst acc)) hCD, upd_upd, upd_upd]
      | false =>
        rw [if_neg (by decide)]
        refine ⟨e1, ⟨fs, upd_same _ _ _⟩, ?_, by rw [upd_upd]⟩
        have hn : g av = none := by cases e : g av with
          | none => rfl
          | some _ => rw [e] at hc; cases hc
        rw [ht, List.filterMap_append, ← hacc]; simp [hn]
    cases q with
    | none _ q => exact .none _ (step true q.2.1 q.2.2)
    | one c _ q =>
      refine .one c _ fun hW hΓ B hd tl s hB hs => wpAny_mono (q hW hΓ B hd tl s hB hs) ?_ fun _ _ e => e
      rintro c s2 ⟨S2, tl2, x2, st2, rfl, q2, q3⟩
      exact ⟨_, tl2, x2, st2, step c q2 q3⟩
  · rintro acc S2 ⟨hacc, rfl⟩ _ hfin
    rw [List.take_length] at hacc
    have e1 : del (upd (upd S0 D (.lst acc)) C (.ns [])) C = upd S0 D (.lst acc) := by
      funext b
      show (if b = C then none else if b = C then _ else (upd S0 D (.lst acc)) b) = _
      by_cases h : b = C
      · subst h; rw [if_pos rfl, upd_ne hCD]; exact hC.symm
      · rw [if_neg h, if_neg h]
    rw [e1, hacc] at hfin ⊢
    exact last D hD hfin
theorem e_map {elt tgt iter : Expr} {ifs : List Expr} {scope : Scope} {pos : Pos} {cl : List (Str × Addr)} (hclos : closureFor scope Γ.ev = pure cl)
    (h : WE W Γ n iter m S (KMapc W Γ n elt tgt ifs m scope cl (fun D => Q (.ref D))) X) (hb : Γ.blk = none := by kernel_rfl)
    (hcell : ∀ y ∈ scope.names, y.2 ≠ .cell := by decide +kernel) (hkind : scope.kind = .function := by kernel_rfl)
    (hnames : ∀ y ∈ scope.names, y.2 = .local → scope.names.lookup y.1 = some .local := by decide +kernel)
    (hs : ∀ env x, foldedSetIterable iter env x = pure x := by intros; kernel_rfl) : WE W Γ n (.ListComp elt [⟨tgt, iter, ifs, 0⟩] scope pos) m S Q X :=
  e_comp hclos (h.mono fun _ _ h => map_core (QD := fun D => Q (.ref D)) h) hb hcell hkind hnames hs
theorem s_map {elt tgt iter : Expr} {ifs : List Expr} {scope : Scope} {pos p' pos2 : Pos} {x : Str} {i : Nat} {cl : List (Str × Addr)} {Q : Fl → Loc → Store → Prop} (hx : Ix x i Γ.ns) (hclos : closureFor scope Γ.ev = pure cl) (hsw : swapsWith (.ListComp elt [⟨tgt, iter, ifs, 0⟩] scope pos) (some (.Name x p')) pos2.line Γ.env = pure true)
    (h : WE W Γ n iter m S (KMapc W Γ n elt tgt ifs m scope cl (fun D S3 => Q .nxt (m.set i (some (.ref D))) S3)) X) (hb : Γ.blk = none := by kernel_rfl)
    (hcell : ∀ y ∈ scope.names, y.2 ≠ .cell := by decide +kernel) (hkind : scope.kind = .function := by kernel_rfl)
    (hnames : ∀ y ∈ scope.names, y.2 = .local → scope.names.lookup y.1 = some .local := by decide +kernel)
    (hs : ∀ env x, foldedSetIterable iter env x = pure x := by intros; kernel_rfl) : W1 W Γ n (.Assign [.Name x p'] (.ListComp elt [⟨tgt, iter, ifs, 0⟩] scope pos) pos2) m S Q X :=
  s_comp hx hclos hsw (h.mono fun _ _ h => map_core (QD := fun D S3 => Q .nxt (m.set i (some (.ref D))) S3) h) hb hcell hkind hnames hs
noncomputable def relN (scope cs : Scope) : List (Str × NameKind) := scope.names.map fun (n, k) => if (k == .free && cs.kind == .function && cs.names.lookup n == some .cell) then (n, .cell) else (n, k)
theorem ev_scope (hF : FcIs Γ cs ns cl) : Γ.ev = { Γ.ev with scope := cs } := by
  rw [← hF.ev]
theorem ev_cells (hF : FcIs Γ cs ns cl) : Γ.ev = { Γ.ev with cells := cl } := by
  rw [Fc.ev_env hF.blk, ← hF.cl]
theorem kind_blk {b : Blk} {x : Str} {k : NameKind} (hF : FcIs Γ cs ns cl) (h : (relN b.scope cs).lookup x = some k) : (Γ.inBlk b).ev.kindOf x = some k := by
  show (relN b.scope Γ.cs).lookup x = _
  rw [hF.cs]; exact h
theorem isBi_blk {x : Str} {npos pos : Pos} {a : Expr} {rest : List Expr} {g : String} {b : Blk} (hF : FcIs Γ cs ns cl) (bi : IsBi W x g) (hs : plainArgs (a :: rest) = true) (q : WEs W (Γ.inBlk b) n pos (a :: rest) m S (fun as S1 => WF W (Γ.inBlk b) n (.builtin g) as m S1 Q X) X)
    (hk : b.scope.kind = .function := by kernel_rfl) (hx : (relN b.scope cs).lookup x = some .globalImplicit := by kernel_rfl) (hd : (x == ("__debug__" : Str)) = false := by kernel_rfl) : WE W (Γ.inBlk b) n (.Call (.Name x npos) (a :: rest) [] pos) m S Q X :=
  have hs' : noStar a = true ∧ plainArgs rest = true := by unfold plainArgs at hs; rw [List.all_cons, Bool.and_eq_true] at hs; exact hs
  e_bi bi.off bi.boot bi.ne q hk (kind_blk hF hx) hd (fun _ => rfl) (star_cons hs'.1) (star_none hs'.2)
theorem isTy_blk {x : Str} {npos pos : Pos} {a : Expr} {rest : List Expr} {g : String} {b : Blk} (hF : FcIs Γ cs ns cl) (bi : IsTy W x g) (hs : plainArgs (a :: rest) = true) (q : WEs W (Γ.inBlk b) n pos (a :: rest) m S (fun as S1 => WF W (Γ.inBlk b) n (.type g) as m S1 Q X) X)
    (hk : b.scope.kind = .function := by kernel_rfl) (hx : (relN b.scope cs).lookup x = some .globalImplicit := by kernel_rfl) (hd : (x == ("__debug__" : Str)) = false := by kernel_rfl) : WE W (Γ.inBlk b) n (.Call (.Name x npos) (a :: rest) [] pos) m S Q X :=
  have hs' : noStar a = true ∧ plainArgs rest = true := by unfold plainArgs at hs; rw [List.all_cons, Bool.and_eq_true] at hs; exact hs
  e_ty bi.off bi.boot bi.ne q hk (kind_blk hF hx) hd (fun _ => rfl) (star_cons hs'.1) (star_none hs'.2)
theorem call_blk {x : Str} {npos pos : Pos} {a : Expr} {rest : List Expr} {g : Addr} {b : Blk} (hF : FcIs Γ cs ns cl) (e : nsIn W.K mainGlobals x = some (some (.ref g))) (hk : keepIn W.K (.ref g) = true) (hs : plainArgs (a :: rest) = true)
    (q : WEs W (Γ.inBlk b) n pos (a :: rest) m S (fun as S1 => WF W (Γ.inBlk b) n (.ref g) as m S1 Q X) X)
    (hk' : b.scope.kind = .function := by kernel_rfl) (hx : (relN b.scope cs).lookup x = some .globalImplicit := by kernel_rfl) (hd : (x == ("__debug__" : Str)) = false := by kernel_rfl) : WE W (Γ.inBlk b) n (.Call (.Name x npos) (a :: rest) [] pos) m S Q X :=
  have hs' : noStar a = true ∧ plainArgs rest = true := by unfold plainArgs at hs; rw [List.all_cons, Bool.and_eq_true] at hs; exact hs
  e_call e hk q hk' (kind_blk hF hx) hd (fun _ => rfl) (star_cons hs'.1) (star_none hs'.2)
theorem name_blk {x : Str} {pos : Pos} {b : Blk} {f : List (Str × AV)} {av : AV} (hF : FcIs Γ cs ns cl) (hC : S b.C = some (.ns f)) (hf : (x, av) ∈ f) (q : Q av S)
    (hk : b.scope.kind = .function := by kernel_rfl) (hx : (relN b.scope cs).lookup x = some .local := by kernel_rfl) (hd : (x == ("__debug__" : Str)) = false := by kernel_rfl) : WE W (Γ.inBlk b) n (.Name x pos) m S Q X :=
  e_bname (b := b) rfl hC hf q hk (kind_blk hF hx) hd
theorem free_blk {x : Str} {pos : Pos} {b : Blk} {c : Addr} {av : AV} (hF : FcIs Γ cs ns cl) (hc : b.cl.lookup x = some c) (hm : S c = some (.cell (some av))) (q : Q av S)
    (hk : b.scope.kind = .function := by kernel_rfl) (hx : (relN b.scope cs).lookup x = some .cell := by kernel_rfl) (hd : (x == ("__debug__" : Str)) = false := by kernel_rfl) : WE W (Γ.inBlk b) n (.Name x pos) m S Q X :=
  e_bfree (b := b) rfl hc hm q hk (kind_blk hF hx) hd
theorem to_blk {x : Str} {p : Pos} {b : Blk} {f : List (Str × AV)} {av : AV} {Q : Loc → Store → Prop} (hF : FcIs Γ cs ns cl) (hC : S b.C = some (.ns f)) (hf : x ∉ f.map (·.1)) (q : Q m (upd S b.C (.ns ((x, av) :: f))))
    (hk : b.scope.kind = .function := by kernel_rfl) (hx : (relN b.scope cs).lookup x = some .local := by kernel_rfl) : WA W (Γ.inBlk b) n (.Name x p) av m S Q :=
  w_bname (b := b) rfl hC hf q hk (kind_blk hF hx)
end
end
section
noncomputable abbrev C_BadListing : Addr := 31
noncomputable abbrev C_Procedure : Addr := 65
noncomputable abbrev C_Listing : Addr := 212
structure Wd.Is (W : Wd) : Prop where
  K : W.K = heapK W.w.params
  bad : W.bad = C_BadListing
theorem len_s {P : List Value → Prop} {k : Nat} (h : ∀ v r, r.length = k → P (v :: r)) : ∀ vs, vs.length = k + 1 → P vs := fun vs e => by
  cases vs with
  | nil => cases e
  | cons v r => exact h v r (Nat.succ.inj e)
theorem len_z {P : List Value → Prop} (h : P []) : ∀ vs, vs.length = 0 → P vs := fun vs e => by
  cases vs with
  | nil => exact h
  | cons v r => cases e
theorem fnAt {W : Wd} {f : Addr} {qual : Str} {params : Arguments} {body : List Stmt} {scope : Scope} {cd : Value} {name : Str} {dV kV doc pm ct : Value} {an : Option Addr} {od : Option Addr} {sl : Array (Option Value)} (hW : W.Ok) (hI : W.Is)
    (hl : ∀ P, (heapK P).lookup f = some ⟨.type "function", od, .func (fnX name qual params body scope [] dV kV doc pm an cd ct), sl⟩) (hcd : ∀ P, codeIn (heapK P) cd qual = true)
    (hb : ∀ s vs, vs.length = params.args.length → BindsTo s (fnX name qual params body scope [] dV kV doc pm an cd ct) ⟨vs, []⟩ ((params.args.map (·.arg)).zip vs)) : FnAt W f qual params body scope cd :=
  ⟨⟨_, name, dV, kV, doc, pm, an, ct, hW.inK _ _ (by rw [hI.K]; exact hl _), rfl, rfl, hb⟩, codeRec_of hW.inK (by rw [hI.K]; exact hcd _)⟩
noncomputable abbrev f_BadListing_init : Addr := 28
noncomputable abbrev q_BadListing_init : Str := ⟨⟨[66, 97, 100, 76, 105, 115, 116, 105, 110, 103, 46, 95, 95, 105, 110, 105, 116, 95, 95]⟩⟩
theorem lk_BadListing_init (P : Params) : (heapK P).lookup f_BadListing_init = some (o_16 P) := by kernel_rfl
theorem fn_BadListing_init {W : Wd} (hW : W.Ok) (hI : W.Is) : FnAt W f_BadListing_init q_BadListing_init args_BadListing_init body_BadListing_init scope_BadListing_init (.ref 27) := by
  refine fnAt hW hI lk_BadListing_init (fun P => by kernel_rfl) fun s vs hv => ?_
  replace hv : vs.length = 3 := hv
  revert hv; revert vs
  refine len_s ?_; intro v0; refine len_s ?_; intro v1; refine len_s ?_; intro v2
  refine len_z ?_
  exact BindsTo.of_eq (by kernel_rfl)
noncomputable abbrev f_Procedure_init : Addr := 62
noncomputable abbrev q_Procedure_init : Str := ⟨⟨[80, 114, 111, 99, 101, 100, 117, 114, 101, 46, 95, 95, 105, 110, 105, 116, 95, 95]⟩⟩
theorem lk_Procedure_init (P : Params) : (heapK P).lookup f_Procedure_init = some (o_47 P) := by kernel_rfl
theorem fn_Procedure_init {W : Wd} (hW : W.Ok) (hI : W.Is) : FnAt W f_Procedure_init q_Procedure_init args_Procedure_init body_Procedure_init scope_Procedure_init (.ref 61) := by
  refine fnAt hW hI lk_Procedure_init (fun P => by kernel_rfl) fun s vs hv => ?_
  replace hv : vs.length = 9 := hv
  revert hv; revert vs
  refine len_s ?_; intro v0; refine len_s ?_; intro v1; refine len_s ?_; intro v2; refine len_s ?_; intro v3; refine len_s ?_; intro v4; refine len_s ?_; intro v5; refine len_s ?_; intro v6; refine len_s ?_; intro v7; refine len_s ?_; intro v8
  refine len_z ?_
  exact BindsTo.of_eq (by kernel_rfl)
abbrev ns_Procedure_init : List Str := [a_self, a_number, a_title, a_needed, a_has_rest, a_is_continuation, a_registers, a_free, a_instructions]
theorem nm_Procedure_init : NamesOk args_Procedure_init scope_Procedure_init ns_Procedure_init := ⟨⟨[], by kernel_rfl⟩, by decide +kernel, by decide +kernel, by decide +kernel, rfl, by decide +kernel, rfl, rfl⟩
noncomputable abbrev f_operand_pairs : Addr := 76
noncomputable abbrev q_operand_pairs : Str := a_operand_pairs
theorem lk_operand_pairs (P : Params) : (heapK P).lookup f_operand_pairs = some (o_58 P) := by kernel_rfl
theorem fn_operand_pairs {W : Wd} (hW : W.Ok) (hI : W.Is) : FnAt W f_operand_pairs q_operand_pairs args_operand_pairs body_operand_pairs scope_operand_pairs (.ref 75) := by
  refine fnAt hW hI lk_operand_pairs (fun P => by kernel_rfl) fun s vs hv => ?_
  replace hv : vs.length = 1 := hv
  revert hv; revert vs
  refine len_s ?_; intro v0
  refine len_z ?_
  exact BindsTo.of_eq (by kernel_rfl)
abbrev ns_operand_pairs : List Str := [a_instruction]
theorem nm_operand_pairs : NamesOk args_operand_pairs scope_operand_pairs ns_operand_pairs := ⟨⟨[], by kernel_rfl⟩, by decide +kernel, by decide +kernel, by decide +kernel, rfl, by decide +kernel, rfl, rfl⟩
noncomputable abbrev f_label_of : Addr := 83
noncomputable abbrev q_label_of : Str := a_label_of
theorem lk_label_of (P : Params) : (heapK P).lookup f_label_of = some (o_62 P) := by kernel_rfl
theorem fn_label_of {W : Wd} (hW : W.Ok) (hI : W.Is) : FnAt W f_label_of q_label_of args_label_of body_label_of scope_label_of (.ref 82) := by
  refine fnAt hW hI lk_label_of (fun P => by kernel_rfl) fun s vs hv => ?_
  replace hv : vs.length = 1 := hv
  revert hv; revert vs
  refine len_s ?_; intro v0
  refine len_z ?_
  exact BindsTo.of_eq (by kernel_rfl)
abbrev ns_label_of : List Str := [a_instruction, a_sort, a_operand]
theorem nm_label_of : NamesOk args_label_of scope_label_of ns_label_of := ⟨⟨[a_sort, a_operand], by kernel_rfl⟩, by decide +kernel, by decide +kernel, by decide +kernel, rfl, by decide +kernel, rfl, rfl⟩
noncomputable abbrev f_labels_met : Addr := 90
noncomputable abbrev q_labels_met : Str := a_labels_met
theorem lk_labels_met (P : Params) : (heapK P).lookup f_labels_met = some (o_66 P) := by kernel_rfl
theorem fn_labels_met {W : Wd} (hW : W.Ok) (hI : W.Is) : FnAt W f_labels_met q_labels_met args_labels_met body_labels_met scope_labels_met (.ref 89) := by
  refine fnAt hW hI lk_labels_met (fun P => by kernel_rfl) fun s vs hv => ?_
  replace hv : vs.length = 1 := hv
  revert hv; revert vs
  refine len_s ?_; intro v0
  refine len_z ?_
  exact BindsTo.of_eq (by kernel_rfl)
abbrev ns_labels_met : List Str := [a_instructions, a_found, a_instruction, a_label]
theorem nm_labels_met : NamesOk args_labels_met scope_labels_met ns_labels_met := ⟨⟨[a_found, a_instruction, a_label], by kernel_rfl⟩, by decide +kernel, by decide +kernel, by decide +kernel, rfl, by decide +kernel, rfl, rfl⟩
noncomputable abbrev f_registers_text : Addr := 96
noncomputable abbrev q_registers_text : Str := a_registers_text
theorem lk_registers_text (P : Params) : (heapK P).lookup f_registers_text = some (o_72 P) := by kernel_rfl
theorem fn_registers_text {W : Wd} (hW : W.Ok) (hI : W.Is) : FnAt W f_registers_text q_registers_text args_registers_text body_registers_text scope_registers_text (.ref 95) := by
  refine fnAt hW hI lk_registers_text (fun P => by kernel_rfl) fun s vs hv => ?_
  replace hv : vs.length = 1 := hv
  revert hv; revert vs
  refine len_s ?_; intro v0
  refine len_z ?_
  exact BindsTo.of_eq (by kernel_rfl)
abbrev ns_registers_text : List Str := [a_registers]
theorem nm_registers_text : NamesOk args_registers_text scope_registers_text ns_registers_text := ⟨⟨[], by kernel_rfl⟩, by decide +kernel, by decide +kernel, by decide +kernel, rfl, by decide +kernel, rfl, rfl⟩
theorem gl_registers_text {W : Wd} (hI : W.Is) : nsIn W.K mainGlobals a_registers_text = some (some (.ref f_registers_text)) := by rw [hI.K]; kernel_rfl
theorem kp_registers_text {W : Wd} (hI : W.Is) : keepIn W.K (.ref f_registers_text) = true := by rw [hI.K]; kernel_rfl
noncomputable abbrev f_operand_text : Addr := 101
noncomputable abbrev q_operand_text : Str := a_operand_text
theorem lk_operand_text (P : Params) : (heapK P).lookup f_operand_text = some (o_75 P) := by kernel_rfl
theorem fn_operand_text {W : Wd} (hW : W.Ok) (hI : W.Is) : FnAt W f_operand_text q_operand_text args_operand_text body_operand_text scope_operand_text (.ref 100) := by
  refine fnAt hW hI lk_operand_text (fun P => by kernel_rfl) fun s vs hv => ?_
  replace hv : vs.length = 3 := hv
  revert hv; revert vs
  refine len_s ?_; intro v0; refine len_s ?_; intro v1; refine len_s ?_; intro v2
  refine len_z ?_
  exact BindsTo.of_eq (by kernel_rfl)
abbrev ns_operand_text : List Str := [a_sort, a_operand, a_names]
theorem nm_operand_text : NamesOk args_operand_text scope_operand_text ns_operand_text := ⟨⟨[], by kernel_rfl⟩, by decide +kernel, by decide +kernel, by decide +kernel, rfl, by decide +kernel, rfl, rfl⟩
theorem gl_operand_text {W : Wd} (hI : W.Is) : nsIn W.K mainGlobals a_operand_text = some (some (.ref f_operand_text)) := by rw [hI.K]; kernel_rfl
theorem kp_operand_text {W : Wd} (hI : W.Is) : keepIn W.K (.ref f_operand_text) = true := by rw [hI.K]; kernel_rfl
noncomputable abbrev f_instruction_text : Addr := 106
noncomputable abbrev q_instruction_text : Str := a_instruction_text
theorem lk_instruction_text (P : Params) : (heapK P).lookup f_instruction_text = some (o_78 P) := by kernel_rfl
theorem fn_instruction_text {W : Wd} (hW : W.Ok) (hI : W.Is) : FnAt W f_instruction_text q_instruction_text args_instruction_text body_instruction_text scope_instruction_text (.ref 105) := by
  refine fnAt hW hI lk_instruction_text (fun P => by kernel_rfl) fun s vs hv => ?_
  replace hv : vs.length = 2 := hv
  revert hv; revert vs
  refine len_s ?_; intro v0; refine len_s ?_; intro v1
  refine len_z ?_
  exact BindsTo.of_eq (by kernel_rfl)
abbrev ns_instruction_text : List Str := [a_instruction, a_parts]
theorem nm_instruction_text : NamesOkC args_instruction_text scope_instruction_text ns_instruction_text a_names := ⟨by decide +kernel, by decide +kernel, by decide +kernel, by decide +kernel, by kernel_rfl, fun n => by kernel_rfl, by decide +kernel, rfl, rfl, rfl⟩
noncomputable abbrev f_procedure_lines : Addr := 113
noncomputable abbrev q_procedure_lines : Str := a_procedure_lines
theorem lk_procedure_lines (P : Params) : (heapK P).lookup f_procedure_lines = some (o_82 P) := by kernel_rfl
theorem fn_procedure_lines {W : Wd} (hW : W.Ok) (hI : W.Is) : FnAt W f_procedure_lines q_procedure_lines args_procedure_lines body_procedure_lines scope_procedure_lines (.ref 112) := by
  refine fnAt hW hI lk_procedure_lines (fun P => by kernel_rfl) fun s vs hv => ?_
  replace hv : vs.length = 2 := hv
  revert hv; revert vs
  refine len_s ?_; intro v0; refine len_s ?_; intro v1
  refine len_z ?_
  exact BindsTo.of_eq (by kernel_rfl)
abbrev ns_procedure_lines : List Str := [a_procedure, a_names, a_words, a_found, a_labels, a_place, a_instruction, a_ahead]
theorem nm_procedure_lines : NamesOk args_procedure_lines scope_procedure_lines ns_procedure_lines := ⟨⟨[a_words, a_found, a_labels, a_place, a_instruction, a_ahead], by kernel_rfl⟩, by decide +kernel, by decide +kernel, by decide +kernel, rfl, by decide +kernel, rfl, rfl⟩
noncomputable abbrev f_code_text : Addr := 118
noncomputable abbrev q_code_text : Str := a_code_text
theorem lk_code_text (P : Params) : (heapK P).lookup f_code_text = some (o_85 P) := by kernel_rfl
theorem fn_code_text {W : Wd} (hW : W.Ok) (hI : W.Is) : FnAt W f_code_text q_code_text args_code_text body_code_text scope_code_text (.ref 117) := by
  refine fnAt hW hI lk_code_text (fun P => by kernel_rfl) fun s vs hv => ?_
  replace hv : vs.length = 2 := hv
  revert hv; revert vs
  refine len_s ?_; intro v0; refine len_s ?_; intro v1
  refine len_z ?_
  exact BindsTo.of_eq (by kernel_rfl)
abbrev ns_code_text : List Str := [a_procedures, a_names, a_lines, a_procedure]
theorem nm_code_text : NamesOk args_code_text scope_code_text ns_code_text := ⟨⟨[a_lines, a_procedure], by kernel_rfl⟩, by decide +kernel, by decide +kernel, by decide +kernel, rfl, by decide +kernel, rfl, rfl⟩
noncomputable abbrev f_Listing_init : Addr := 132
noncomputable abbrev q_Listing_init : Str := ⟨⟨[76, 105, 115, 116, 105, 110, 103, 46, 95, 95, 105, 110, 105, 116, 95, 95]⟩⟩
theorem lk_Listing_init (P : Params) : (heapK P).lookup f_Listing_init = some (o_95 P) := by kernel_rfl
theorem fn_Listing_init {W : Wd} (hW : W.Ok) (hI : W.Is) : FnAt W f_Listing_init q_Listing_init args_Listing_init body_Listing_init scope_Listing_init (.ref 131) := by
  refine fnAt hW hI lk_Listing_init (fun P => by kernel_rfl) fun s vs hv => ?_
  replace hv : vs.length = 2 := hv
  revert hv; revert vs
  refine len_s ?_; intro v0; refine len_s ?_; intro v1
  refine len_z ?_
  exact BindsTo.of_eq (by kernel_rfl)
abbrev ns_Listing_init : List Str := [a_self, a_text]
theorem nm_Listing_init : NamesOk args_Listing_init scope_Listing_init ns_Listing_init := ⟨⟨[], by kernel_rfl⟩, by decide +kernel, by decide +kernel, by decide +kernel, rfl, by decide +kernel, rfl, rfl⟩
noncomputable abbrev f_Listing_refuse : Addr := 139
noncomputable abbrev q_Listing_refuse : Str := ⟨⟨[76, 105, 115, 116, 105, 110, 103, 46, 114, 101, 102, 117, 115, 101]⟩⟩
theorem lk_Listing_refuse (P : Params) : (heapK P).lookup f_Listing_refuse = some (o_99 P) := by kernel_rfl
theorem fn_Listing_refuse {W : Wd} (hW : W.Ok) (hI : W.Is) : FnAt W f_Listing_refuse q_Listing_refuse args_Listing_refuse body_Listing_refuse scope_Listing_refuse (.ref 138) := by
  refine fnAt hW hI lk_Listing_refuse (fun P => by kernel_rfl) fun s vs hv => ?_
  replace hv : vs.length = 2 := hv
  revert hv; revert vs
  refine len_s ?_; intro v0; refine len_s ?_; intro v1
  refine len_z ?_
  exact BindsTo.of_eq (by kernel_rfl)
abbrev ns_Listing_refuse : List Str := [a_self, a_word]
theorem nm_Listing_refuse : NamesOk args_Listing_refuse scope_Listing_refuse ns_Listing_refuse := ⟨⟨[], by kernel_rfl⟩, by decide +kernel, by decide +kernel, by decide +kernel, rfl, by decide +kernel, rfl, rfl⟩
theorem me_Listing_refuse {W : Wd} (hI : W.Is) : okMeth W.K C_Listing a_refuse f_Listing_refuse = true := by rw [hI.K]; kernel_rfl
noncomputable abbrev f_Listing_is_at_end : Addr := 146
noncomputable abbrev q_Listing_is_at_end : Str := ⟨⟨[76, 105, 115, 116, 105, 110, 103, 46, 105, 115, 95, 97, 116, 95, 101, 110, 100]⟩⟩
theorem lk_Listing_is_at_end (P : Params) : (heapK P).lookup f_Listing_is_at_end = some (o_103 P) := by kernel_rfl
theorem fn_Listing_is_at_end {W : Wd} (hW : W.Ok) (hI : W.Is) : FnAt W f_Listing_is_at_end q_Listing_is_at_end args_Listing_is_at_end body_Listing_is_at_end scope_Listing_is_at_end (.ref 145) := by
  refine fnAt hW hI lk_Listing_is_at_end (fun P => by kernel_rfl) fun s vs hv => ?_
  replace hv : vs.length = 1 := hv
  revert hv; revert vs
  refine len_s ?_; intro v0
  refine len_z ?_
  exact BindsTo.of_eq (by kernel_rfl)
abbrev ns_Listing_is_at_end : List Str := [a_self]
theorem nm_Listing_is_at_end : NamesOk args_Listing_is_at_end scope_Listing_is_at_end ns_Listing_is_at_end := ⟨⟨[], by kernel_rfl⟩, by decide +kernel, by decide +kernel, by decide +kernel, rfl, by decide +kernel, rfl, rfl⟩
theorem me_Listing_is_at_end {W : Wd} (hI : W.Is) : okMeth W.K C_Listing a_is_at_end f_Listing_is_at_end = true := by rw [hI.K]; kernel_rfl
noncomputable abbrev f_Listing_skip_blanks : Addr := 153
noncomputable abbrev q_Listing_skip_blanks : Str := ⟨⟨[76, 105, 115, 116, 105, 110, 103, 46, 115, 107, 105, 112, 95, 98, 108, 97, 110, 107, 115]⟩⟩
theorem lk_Listing_skip_blanks (P : Params) : (heapK P).lookup f_Listing_skip_blanks = some (o_107 P) := by kernel_rfl
theorem fn_Listing_skip_blanks {W : Wd} (hW : W.Ok) (hI : W.Is) : FnAt W f_Listing_skip_blanks q_Listing_skip_blanks args_Listing_skip_blanks body_Listing_skip_blanks scope_Listing_skip_blanks (.ref 152) := by
  refine fnAt hW hI lk_Listing_skip_blanks (fun P => by kernel_rfl) fun s vs hv => ?_
  replace hv : vs.length = 1 := hv
  revert hv; revert vs
  refine len_s ?_; intro v0
  refine len_z ?_
  exact BindsTo.of_eq (by kernel_rfl)
abbrev ns_Listing_skip_blanks : List Str := [a_self]
theorem nm_Listing_skip_blanks : NamesOk args_Listing_skip_blanks scope_Listing_skip_blanks ns_Listing_skip_blanks := ⟨⟨[], by kernel_rfl⟩, by decide +kernel, by decide +kernel, by decide +kernel, rfl, by decide +kernel, rfl, rfl⟩
theorem me_Listing_skip_blanks {W : Wd} (hI : W.Is) : okMeth W.K C_Listing a_skip_blanks f_Listing_skip_blanks = true := by rw [hI.K]; kernel_rfl
noncomputable abbrev f_Listing_peek : Addr := 160
noncomputable abbrev q_Listing_peek : Str := ⟨⟨[76, 105, 115, 116, 105, 110, 103, 46, 112, 101, 101, 107]⟩⟩
theorem lk_Listing_peek (P : Params) : (heapK P).lookup f_Listing_peek = some (o_111 P) := by kernel_rfl
theorem fn_Listing_peek {W : Wd} (hW : W.Ok) (hI : W.Is) : FnAt W f_Listing_peek q_Listing_peek args_Listing_peek body_Listing_peek scope_Listing_peek (.ref 159) := by
  refine fnAt hW hI lk_Listing_peek (fun P => by kernel_rfl) fun s vs hv => ?_
  replace hv : vs.length = 1 := hv
  revert hv; revert vs
  refine len_s ?_; intro v0
  refine len_z ?_
  exact BindsTo.of_eq (by kernel_rfl)
abbrev ns_Listing_peek : List Str := [a_self, a_end]
theorem nm_Listing_peek : NamesOk args_Listing_peek scope_Listing_peek ns_Listing_peek := ⟨⟨[a_end], by kernel_rfl⟩, by decide +kernel, by decide +kernel, by decide +kernel, rfl, by decide +kernel, rfl, rfl⟩
theorem me_Listing_peek {W : Wd} (hI : W.Is) : okMeth W.K C_Listing a_peek f_Listing_peek = true := by rw [hI.K]; kernel_rfl
noncomputable abbrev f_Listing_word : Addr := 167
noncomputable abbrev q_Listing_word : Str := ⟨⟨[76, 105, 115, 116, 105, 110, 103, 46, 119, 111, 114, 100]⟩⟩
theorem lk_Listing_word (P : Params) : (heapK P).lookup f_Listing_word = some (o_115 P) := by kernel_rfl
theorem fn_Listing_word {W : Wd} (hW : W.Ok) (hI : W.Is) : FnAt W f_Listing_word q_Listing_word args_Listing_word body_Listing_word scope_Listing_word (.ref 166) := by
  refine fnAt hW hI lk_Listing_word (fun P => by kernel_rfl) fun s vs hv => ?_
  replace hv : vs.length = 1 := hv
  revert hv; revert vs
  refine len_s ?_; intro v0
  refine len_z ?_
  exact BindsTo.of_eq (by kernel_rfl)
abbrev ns_Listing_word : List Str := [a_self, a_found]
theorem nm_Listing_word : NamesOk args_Listing_word scope_Listing_word ns_Listing_word := ⟨⟨[a_found], by kernel_rfl⟩, by decide +kernel, by decide +kernel, by decide +kernel, rfl, by decide +kernel, rfl, rfl⟩
theorem me_Listing_word {W : Wd} (hI : W.Is) : okMeth W.K C_Listing a_word f_Listing_word = true := by rw [hI.K]; kernel_rfl
noncomputable abbrev f_Listing_need : Addr := 174
noncomputable abbrev q_Listing_need : Str := ⟨⟨[76, 105, 115, 116, 105, 110, 103, 46, 110, 101, 101, 100]⟩⟩
theorem lk_Listing_need (P : Params) : (heapK P).lookup f_Listing_need = some (o_119 P) := by kernel_rfl
theorem fn_Listing_need {W : Wd} (hW : W.Ok) (hI : W.Is) : FnAt W f_Listing_need q_Listing_need args_Listing_need body_Listing_need scope_Listing_need (.ref 173) := by
  refine fnAt hW hI lk_Listing_need (fun P => by kernel_rfl) fun s vs hv => ?_
  replace hv : vs.length = 2 := hv
  revert hv; revert vs
  refine len_s ?_; intro v0; refine len_s ?_; intro v1
  refine len_z ?_
  exact BindsTo.of_eq (by kernel_rfl)
abbrev ns_Listing_need : List Str := [a_self, a_wanted]
theorem nm_Listing_need : NamesOk args_Listing_need scope_Listing_need ns_Listing_need := ⟨⟨[], by kernel_rfl⟩, by decide +kernel, by decide +kernel, by decide +kernel, rfl, by decide +kernel, rfl, rfl⟩
theorem me_Listing_need {W : Wd} (hI : W.Is) : okMeth W.K C_Listing a_need f_Listing_need = true := by rw [hI.K]; kernel_rfl
noncomputable abbrev f_Listing_takes : Addr := 181
noncomputable abbrev q_Listing_takes : Str := ⟨⟨[76, 105, 115, 116, 105, 110, 103, 46, 116, 97, 107, 101, 115]⟩⟩
theorem lk_Listing_takes (P : Params) : (heapK P).lookup f_Listing_takes = some (o_123 P) := by kernel_rfl
theorem fn_Listing_takes {W : Wd} (hW : W.Ok) (hI : W.Is) : FnAt W f_Listing_takes q_Listing_takes args_Listing_takes body_Listing_takes scope_Listing_takes (.ref 180) := by
  refine fnAt hW hI lk_Listing_takes (fun P => by kernel_rfl) fun s vs hv => ?_
  replace hv : vs.length = 2 := hv
  revert hv; revert vs
  refine len_s ?_; intro v0; refine len_s ?_; intro v1
  refine len_z ?_
  exact BindsTo.of_eq (by kernel_rfl)
abbrev ns_Listing_takes : List Str := [a_self, a_wanted]
theorem nm_Listing_takes : NamesOk args_Listing_takes scope_Listing_takes ns_Listing_takes := ⟨⟨[], by kernel_rfl⟩, by decide +kernel, by decide +kernel, by decide +kernel, rfl, by decide +kernel, rfl, rfl⟩
theorem me_Listing_takes {W : Wd} (hI : W.Is) : okMeth W.K C_Listing a_takes f_Listing_takes = true := by rw [hI.K]; kernel_rfl
noncomputable abbrev f_Listing_count : Addr := 188
noncomputable abbrev q_Listing_count : Str := ⟨⟨[76, 105, 115, 116, 105, 110, 103, 46, 99, 111, 117, 110, 116]⟩⟩
theorem lk_Listing_count (P : Params) : (heapK P).lookup f_Listing_count = some (o_127 P) := by kernel_rfl
theorem fn_Listing_count {W : Wd} (hW : W.Ok) (hI : W.Is) : FnAt W f_Listing_count q_Listing_count args_Listing_count body_Listing_count scope_Listing_count (.ref 187) := by
  refine fnAt hW hI lk_Listing_count (fun P => by kernel_rfl) fun s vs hv => ?_
  replace hv : vs.length = 1 := hv
  revert hv; revert vs
  refine len_s ?_; intro v0
  refine len_z ?_
  exact BindsTo.of_eq (by kernel_rfl)
abbrev ns_Listing_count : List Str := [a_self, a_found]
theorem nm_Listing_count : NamesOk args_Listing_count scope_Listing_count ns_Listing_count := ⟨⟨[a_found], by kernel_rfl⟩, by decide +kernel, by decide +kernel, by decide +kernel, rfl, by decide +kernel, rfl, rfl⟩
theorem me_Listing_count {W : Wd} (hI : W.Is) : okMeth W.K C_Listing a_count f_Listing_count = true := by rw [hI.K]; kernel_rfl
noncomputable abbrev f_Listing_lettered : Addr := 195
noncomputable abbrev q_Listing_lettered : Str := ⟨⟨[76, 105, 115, 116, 105, 110, 103, 46, 108, 101, 116, 116, 101, 114, 101, 100]⟩⟩
theorem lk_Listing_lettered (P : Params) : (heapK P).lookup f_Listing_lettered = some (o_131 P) := by kernel_rfl
theorem fn_Listing_lettered {W : Wd} (hW : W.Ok) (hI : W.Is) : FnAt W f_Listing_lettered q_Listing_lettered args_Listing_lettered body_Listing_lettered scope_Listing_lettered (.ref 194) := by
  refine fnAt hW hI lk_Listing_lettered (fun P => by kernel_rfl) fun s vs hv => ?_
  replace hv : vs.length = 2 := hv
  revert hv; revert vs
  refine len_s ?_; intro v0; refine len_s ?_; intro v1
  refine len_z ?_
  exact BindsTo.of_eq (by kernel_rfl)
abbrev ns_Listing_lettered : List Str := [a_self, a_letter, a_found]
theorem nm_Listing_lettered : NamesOk args_Listing_lettered scope_Listing_lettered ns_Listing_lettered := ⟨⟨[a_found], by kernel_rfl⟩, by decide +kernel, by decide +kernel, by decide +kernel, rfl, by decide +kernel, rfl, rfl⟩
theorem me_Listing_lettered {W : Wd} (hI : W.Is) : okMeth W.K C_Listing a_lettered f_Listing_lettered = true := by rw [hI.K]; kernel_rfl
noncomputable abbrev f_Listing_told_text : Addr := 202
noncomputable abbrev q_Listing_told_text : Str := ⟨⟨[76, 105, 115, 116, 105, 110, 103, 46, 116, 111, 108, 100, 95, 116, 101, 120, 116]⟩⟩
theorem lk_Listing_told_text (P : Params) : (heapK P).lookup f_Listing_told_text = some (o_135 P) := by kernel_rfl
theorem fn_Listing_told_text {W : Wd} (hW : W.Ok) (hI : W.Is) : FnAt W f_Listing_told_text q_Listing_told_text args_Listing_told_text body_Listing_told_text scope_Listing_told_text (.ref 201) := by
  refine fnAt hW hI lk_Listing_told_text (fun P => by kernel_rfl) fun s vs hv => ?_
  replace hv : vs.length = 1 := hv
  revert hv; revert vs
  refine len_s ?_; intro v0
  refine len_z ?_
  exact BindsTo.of_eq (by kernel_rfl)
abbrev ns_Listing_told_text : List Str := [a_self, a_length, a_first]
theorem nm_Listing_told_text : NamesOk args_Listing_told_text scope_Listing_told_text ns_Listing_told_text := ⟨⟨[a_length, a_first], by kernel_rfl⟩, by decide +kernel, by decide +kernel, by decide +kernel, rfl, by decide +kernel, rfl, rfl⟩
theorem me_Listing_told_text {W : Wd} (hI : W.Is) : okMeth W.K C_Listing a_told_text f_Listing_told_text = true := by rw [hI.K]; kernel_rfl
noncomputable abbrev f_Listing_end_line : Addr := 209
noncomputable abbrev q_Listing_end_line : Str := ⟨⟨[76, 105, 115, 116, 105, 110, 103, 46, 101, 110, 100, 95, 108, 105, 110, 101]⟩⟩
theorem lk_Listing_end_line (P : Params) : (heapK P).lookup f_Listing_end_line = some (o_139 P) := by kernel_rfl
theorem fn_Listing_end_line {W : Wd} (hW : W.Ok) (hI : W.Is) : FnAt W f_Listing_end_line q_Listing_end_line args_Listing_end_line body_Listing_end_line scope_Listing_end_line (.ref 208) := by
  refine fnAt hW hI lk_Listing_end_line (fun P => by kernel_rfl) fun s vs hv => ?_
  replace hv : vs.length = 1 := hv
  revert hv; revert vs
  refine len_s ?_; intro v0
  refine len_z ?_
  exact BindsTo.of_eq (by kernel_rfl)
abbrev ns_Listing_end_line : List Str := [a_self]
theorem nm_Listing_end_line : NamesOk args_Listing_end_line scope_Listing_end_line ns_Listing_end_line := ⟨⟨[], by kernel_rfl⟩, by decide +kernel, by decide +kernel, by decide +kernel, rfl, by decide +kernel, rfl, rfl⟩
theorem me_Listing_end_line {W : Wd} (hI : W.Is) : okMeth W.K C_Listing a_end_line f_Listing_end_line = true := by rw [hI.K]; kernel_rfl
noncomputable abbrev f_is_figures : Addr := 223
noncomputable abbrev q_is_figures : Str := a_is_figures
theorem lk_is_figures (P : Params) : (heapK P).lookup f_is_figures = some (o_152 P) := by kernel_rfl
theorem fn_is_figures {W : Wd} (hW : W.Ok) (hI : W.Is) : FnAt W f_is_figures q_is_figures args_is_figures body_is_figures scope_is_figures (.ref 222) := by
  refine fnAt hW hI lk_is_figures (fun P => by kernel_rfl) fun s vs hv => ?_
  replace hv : vs.length = 1 := hv
  revert hv; revert vs
  refine len_s ?_; intro v0
  refine len_z ?_
  exact BindsTo.of_eq (by kernel_rfl)
abbrev ns_is_figures : List Str := [a_text, a_sign]
theorem nm_is_figures : NamesOk args_is_figures scope_is_figures ns_is_figures := ⟨⟨[a_sign], by kernel_rfl⟩, by decide +kernel, by decide +kernel, by decide +kernel, rfl, by decide +kernel, rfl, rfl⟩
noncomputable abbrev f_read_registers : Addr := 230
noncomputable abbrev q_read_registers : Str := a_read_registers
theorem lk_read_registers (P : Params) : (heapK P).lookup f_read_registers = some (o_156 P) := by kernel_rfl
theorem fn_read_registers {W : Wd} (hW : W.Ok) (hI : W.Is) : FnAt W f_read_registers q_read_registers args_read_registers body_read_registers scope_read_registers (.ref 229) := by
  refine fnAt hW hI lk_read_registers (fun P => by kernel_rfl) fun s vs hv => ?_
  replace hv : vs.length = 1 := hv
  revert hv; revert vs
  refine len_s ?_; intro v0
  refine len_z ?_
  exact BindsTo.of_eq (by kernel_rfl)
abbrev ns_read_registers : List Str := [a_listing, a_found]
theorem nm_read_registers : NamesOk args_read_registers scope_read_registers ns_read_registers := ⟨⟨[a_found], by kernel_rfl⟩, by decide +kernel, by decide +kernel, by decide +kernel, rfl, by decide +kernel, rfl, rfl⟩
noncomputable abbrev f_read_rows : Addr := 237
noncomputable abbrev q_read_rows : Str := a_read_rows
theorem lk_read_rows (P : Params) : (heapK P).lookup f_read_rows = some (o_160 P) := by kernel_rfl
theorem fn_read_rows {W : Wd} (hW : W.Ok) (hI : W.Is) : FnAt W f_read_rows q_read_rows args_read_rows body_read_rows scope_read_rows (.ref 236) := by
  refine fnAt hW hI lk_read_rows (fun P => by kernel_rfl) fun s vs hv => ?_
  replace hv : vs.length = 1 := hv
  revert hv; revert vs
  refine len_s ?_; intro v0
  refine len_z ?_
  exact BindsTo.of_eq (by kernel_rfl)
abbrev ns_read_rows : List Str := [a_listing, a_found, a_register, a_number]
theorem nm_read_rows : NamesOk args_read_rows scope_read_rows ns_read_rows := ⟨⟨[a_found, a_register, a_number], by kernel_rfl⟩, by decide +kernel, by decide +kernel, by decide +kernel, rfl, by decide +kernel, rfl, rfl⟩
noncomputable abbrev f_read_operand : Addr := 244
noncomputable abbrev q_read_operand : Str := a_read_operand
theorem lk_read_operand (P : Params) : (heapK P).lookup f_read_operand = some (o_164 P) := by kernel_rfl
theorem fn_read_operand {W : Wd} (hW : W.Ok) (hI : W.Is) : FnAt W f_read_operand q_read_operand args_read_operand body_read_operand scope_read_operand (.ref 243) := by
  refine fnAt hW hI lk_read_operand (fun P => by kernel_rfl) fun s vs hv => ?_
  replace hv : vs.length = 3 := hv
  revert hv; revert vs
  refine len_s ?_; intro v0; refine len_s ?_; intro v1; refine len_s ?_; intro v2
  refine len_z ?_
  exact BindsTo.of_eq (by kernel_rfl)
abbrev ns_read_operand : List Str := [a_listing, a_sort, a_ops, a_name]
theorem nm_read_operand : NamesOk args_read_operand scope_read_operand ns_read_operand := ⟨⟨[a_name], by kernel_rfl⟩, by decide +kernel, by decide +kernel, by decide +kernel, rfl, by decide +kernel, rfl, rfl⟩
noncomputable abbrev f_read_instruction : Addr := 251
noncomputable abbrev q_read_instruction : Str := a_read_instruction
theorem lk_read_instruction (P : Params) : (heapK P).lookup f_read_instruction = some (o_168 P) := by kernel_rfl
theorem fn_read_instruction {W : Wd} (hW : W.Ok) (hI : W.Is) : FnAt W f_read_instruction q_read_instruction args_read_instruction body_read_instruction scope_read_instruction (.ref 250) := by
  refine fnAt hW hI lk_read_instruction (fun P => by kernel_rfl) fun s vs hv => ?_
  replace hv : vs.length = 2 := hv
  revert hv; revert vs
  refine len_s ?_; intro v0; refine len_s ?_; intro v1
  refine len_z ?_
  exact BindsTo.of_eq (by kernel_rfl)
abbrev ns_read_instruction : List Str := [a_listing, a_ops, a_word, a_found, a_sort]
theorem nm_read_instruction : NamesOk args_read_instruction scope_read_instruction ns_read_instruction := ⟨⟨[a_word, a_found, a_sort], by kernel_rfl⟩, by decide +kernel, by decide +kernel, by decide +kernel, rfl, by decide +kernel, rfl, rfl⟩
noncomputable abbrev f_read_label : Addr := 258
noncomputable abbrev q_read_label : Str := a_read_label
theorem lk_read_label (P : Params) : (heapK P).lookup f_read_label = some (o_172 P) := by kernel_rfl
theorem fn_read_label {W : Wd} (hW : W.Ok) (hI : W.Is) : FnAt W f_read_label q_read_label args_read_label body_read_label scope_read_label (.ref 257) := by
  refine fnAt hW hI lk_read_label (fun P => by kernel_rfl) fun s vs hv => ?_
  replace hv : vs.length = 2 := hv
  revert hv; revert vs
  refine len_s ?_; intro v0; refine len_s ?_; intro v1
  refine len_z ?_
  exact BindsTo.of_eq (by kernel_rfl)
abbrev ns_read_label : List Str := [a_listing, a_place]
theorem nm_read_label : NamesOk args_read_label scope_read_label ns_read_label := ⟨⟨[], by kernel_rfl⟩, by decide +kernel, by decide +kernel, by decide +kernel, rfl, by decide +kernel, rfl, rfl⟩
noncomputable abbrev f_read_instructions : Addr := 263
noncomputable abbrev q_read_instructions : Str := a_read_instructions
theorem lk_read_instructions (P : Params) : (heapK P).lookup f_read_instructions = some (o_175 P) := by kernel_rfl
theorem fn_read_instructions {W : Wd} (hW : W.Ok) (hI : W.Is) : FnAt W f_read_instructions q_read_instructions args_read_instructions body_read_instructions scope_read_instructions (.ref 262) := by
  refine fnAt hW hI lk_read_instructions (fun P => by kernel_rfl) fun s vs hv => ?_
  replace hv : vs.length = 2 := hv
  revert hv; revert vs
  refine len_s ?_; intro v0; refine len_s ?_; intro v1
  refine len_z ?_
  exact BindsTo.of_eq (by kernel_rfl)
abbrev ns_read_instructions : List Str := [a_listing, a_ops, a_told]
theorem nm_read_instructions : NamesOkC args_read_instructions scope_read_instructions ns_read_instructions a_found := ⟨by decide +kernel, by decide +kernel, by decide +kernel, by decide +kernel, by kernel_rfl, fun n => by kernel_rfl, by decide +kernel, rfl, rfl, rfl⟩
noncomputable abbrev f_read_procedure : Addr := 270
noncomputable abbrev q_read_procedure : Str := a_read_procedure
theorem lk_read_procedure (P : Params) : (heapK P).lookup f_read_procedure = some (o_179 P) := by kernel_rfl
theorem fn_read_procedure {W : Wd} (hW : W.Ok) (hI : W.Is) : FnAt W f_read_procedure q_read_procedure args_read_procedure body_read_procedure scope_read_procedure (.ref 269) := by
  refine fnAt hW hI lk_read_procedure (fun P => by kernel_rfl) fun s vs hv => ?_
  replace hv : vs.length = 3 := hv
  revert hv; revert vs
  refine len_s ?_; intro v0; refine len_s ?_; intro v1; refine len_s ?_; intro v2
  refine len_z ?_
  exact BindsTo.of_eq (by kernel_rfl)
abbrev ns_read_procedure : List Str := [a_listing, a_number, a_ops, a_needed, a_has_rest, a_is_continuation, a_registers, a_free, a_title, a_instructions]
theorem nm_read_procedure : NamesOk args_read_procedure scope_read_procedure ns_read_procedure := ⟨⟨[a_needed, a_has_rest, a_is_continuation, a_registers, a_free, a_title, a_instructions], by kernel_rfl⟩, by decide +kernel, by decide +kernel, by decide +kernel, rfl, by decide +kernel, rfl, rfl⟩
noncomputable abbrev f_read_procedures : Addr := 275
noncomputable abbrev q_read_procedures : Str := a_read_procedures
theorem lk_read_procedures (P : Params) : (heapK P).lookup f_read_procedures = some (o_182 P) := by kernel_rfl
theorem fn_read_procedures {W : Wd} (hW : W.Ok) (hI : W.Is) : FnAt W f_read_procedures q_read_procedures args_read_procedures body_read_procedures scope_read_procedures (.ref 274) := by
  refine fnAt hW hI lk_read_procedures (fun P => by kernel_rfl) fun s vs hv => ?_
  replace hv : vs.length = 2 := hv
  revert hv; revert vs
  refine len_s ?_; intro v0; refine len_s ?_; intro v1
  refine len_z ?_
  exact BindsTo.of_eq (by kernel_rfl)
abbrev ns_read_procedures : List Str := [a_listing, a_names, a_ops, a_found]
theorem nm_read_procedures : NamesOk args_read_procedures scope_read_procedures ns_read_procedures := ⟨⟨[a_ops, a_found], by kernel_rfl⟩, by decide +kernel, by decide +kernel, by decide +kernel, rfl, by decide +kernel, rfl, rfl⟩
noncomputable abbrev f_read_code : Addr := 282
noncomputable abbrev q_read_code : Str := a_read_code
theorem lk_read_code (P : Params) : (heapK P).lookup f_read_code = some (o_186 P) := by kernel_rfl
theorem fn_read_code {W : Wd} (hW : W.Ok) (hI : W.Is) : FnAt W f_read_code q_read_code args_read_code body_read_code scope_read_code (.ref 281) := by
  refine fnAt hW hI lk_read_code (fun P => by kernel_rfl) fun s vs hv => ?_
  replace hv : vs.length = 2 := hv
  revert hv; revert vs
  refine len_s ?_; intro v0; refine len_s ?_; intro v1
  refine len_z ?_
  exact BindsTo.of_eq (by kernel_rfl)
abbrev ns_read_code : List Str := [a_text, a_names, a_listing, a_found]
theorem nm_read_code : NamesOk args_read_code scope_read_code ns_read_code := ⟨⟨[a_listing, a_found], by kernel_rfl⟩, by decide +kernel, by decide +kernel, by decide +kernel, rfl, by decide +kernel, rfl, rfl⟩
noncomputable abbrev f_law_pot : Addr := 287
noncomputable abbrev q_law_pot : Str := a__law_pot
theorem lk_law_pot (P : Params) : (heapK P).lookup f_law_pot = some (o_189 P) := by kernel_rfl
theorem fn_law_pot {W : Wd} (hW : W.Ok) (hI : W.Is) : FnAt W f_law_pot q_law_pot args_law_pot body_law_pot scope_law_pot (.ref 286) := by
  refine fnAt hW hI lk_law_pot (fun P => by kernel_rfl) fun s vs hv => ?_
  replace hv : vs.length = 1 := hv
  revert hv; revert vs
  refine len_s ?_; intro v0
  refine len_z ?_
  exact BindsTo.of_eq (by kernel_rfl)
abbrev ns_law_pot : List Str := [a_script]
theorem nm_law_pot : NamesOk args_law_pot scope_law_pot ns_law_pot := ⟨⟨[], by kernel_rfl⟩, by decide +kernel, by decide +kernel, by decide +kernel, rfl, by decide +kernel, rfl, rfl⟩
noncomputable abbrev f_law_dip : Addr := 294
noncomputable abbrev q_law_dip : Str := a__law_dip
theorem lk_law_dip (P : Params) : (heapK P).lookup f_law_dip = some (o_193 P) := by kernel_rfl
theorem fn_law_dip {W : Wd} (hW : W.Ok) (hI : W.Is) : FnAt W f_law_dip q_law_dip args_law_dip body_law_dip scope_law_dip (.ref 293) := by
  refine fnAt hW hI lk_law_dip (fun P => by kernel_rfl) fun s vs hv => ?_
  replace hv : vs.length = 2 := hv
  revert hv; revert vs
  refine len_s ?_; intro v0; refine len_s ?_; intro v1
  refine len_z ?_
  exact BindsTo.of_eq (by kernel_rfl)
abbrev ns_law_dip : List Str := [a_pot, a_many, a_at]
theorem nm_law_dip : NamesOk args_law_dip scope_law_dip ns_law_dip := ⟨⟨[a_at], by kernel_rfl⟩, by decide +kernel, by decide +kernel, by decide +kernel, rfl, by decide +kernel, rfl, rfl⟩
theorem gl_law_dip {W : Wd} (hI : W.Is) : nsIn W.K mainGlobals a__law_dip = some (some (.ref f_law_dip)) := by rw [hI.K]; kernel_rfl
theorem kp_law_dip {W : Wd} (hI : W.Is) : keepIn W.K (.ref f_law_dip) = true := by rw [hI.K]; kernel_rfl
noncomputable abbrev f_law_names : Addr := 301
noncomputable abbrev q_law_names : Str := a__law_names
theorem lk_law_names (P : Params) : (heapK P).lookup f_law_names = some (o_198 P) := by kernel_rfl
theorem fn_law_names {W : Wd} (hW : W.Ok) (hI : W.Is) : FnAt W f_law_names q_law_names args_law_names body_law_names scope_law_names (.ref 300) := by
  refine fnAt hW hI lk_law_names (fun P => by kernel_rfl) fun s vs hv => ?_
  replace hv : vs.length = 0 := hv
  obtain rfl : vs = [] := List.eq_nil_of_length_eq_zero hv
  exact BindsTo.of_eq (by kernel_rfl)
noncomputable abbrev ns_law_names : List Str := []
theorem nm_law_names : NamesOk args_law_names scope_law_names ns_law_names := ⟨⟨[], by kernel_rfl⟩, by decide +kernel, by decide +kernel, by decide +kernel, rfl, by decide +kernel, rfl, rfl⟩
theorem gl_law_names {W : Wd} (hI : W.Is) : nsIn W.K mainGlobals a__law_names = some (some (.ref f_law_names)) := by rw [hI.K]; kernel_rfl
theorem kp_law_names {W : Wd} (hI : W.Is) : keepIn W.K (.ref f_law_names) = true := by rw [hI.K]; kernel_rfl
noncomputable abbrev f_law_steps : Addr := 308
noncomputable abbrev q_law_steps : Str := a__law_steps
theorem lk_law_steps (P : Params) : (heapK P).lookup f_law_steps = some (o_202 P) := by kernel_rfl
theorem fn_law_steps {W : Wd} (hW : W.Ok) (hI : W.Is) : FnAt W f_law_steps q_law_steps args_law_steps body_law_steps scope_law_steps (.ref 307) := by
  refine fnAt hW hI lk_law_steps (fun P => by kernel_rfl) fun s vs hv => ?_
  replace hv : vs.length = 1 := hv
  revert hv; revert vs
  refine len_s ?_; intro v0
  refine len_z ?_
  exact BindsTo.of_eq (by kernel_rfl)
abbrev ns_law_steps : List Str := [a_pot, a_some, a_first, a_found]
theorem nm_law_steps : NamesOk args_law_steps scope_law_steps ns_law_steps := ⟨⟨[a_some, a_first, a_found], by kernel_rfl⟩, by decide +kernel, by decide +kernel, by decide +kernel, rfl, by decide +kernel, rfl, rfl⟩
noncomputable abbrev f_law_wrong : Addr := 313
noncomputable abbrev q_law_wrong : Str := a__law_wrong
theorem lk_law_wrong (P : Params) : (heapK P).lookup f_law_wrong = some (o_205 P) := by kernel_rfl
theorem fn_law_wrong {W : Wd} (hW : W.Ok) (hI : W.Is) : FnAt W f_law_wrong q_law_wrong args_law_wrong body_law_wrong scope_law_wrong (.ref 312) := by
  refine fnAt hW hI lk_law_wrong (fun P => by kernel_rfl) fun s vs hv => ?_
  replace hv : vs.length = 2 := hv
  revert hv; revert vs
  refine len_s ?_; intro v0; refine len_s ?_; intro v1
  refine len_z ?_
  exact BindsTo.of_eq (by kernel_rfl)
abbrev ns_law_wrong : List Str := [a_pot, a_line, a_way, a_place]
theorem nm_law_wrong : NamesOkC args_law_wrong scope_law_wrong ns_law_wrong a_words := ⟨by decide +kernel, by decide +kernel, by decide +kernel, by decide +kernel, by kernel_rfl, fun n => by kernel_rfl, by decide +kernel, rfl, rfl, rfl⟩
noncomputable abbrev f_law : Addr := 318
noncomputable abbrev q_law : Str := a_law
theorem lk_law (P : Params) : (heapK P).lookup f_law = some (o_208 P) := by kernel_rfl
theorem fn_law {W : Wd} (hW : W.Ok) (hI : W.Is) : FnAt W f_law q_law args_law body_law scope_law (.ref 317) := by
  refine fnAt hW hI lk_law (fun P => by kernel_rfl) fun s vs hv => ?_
  replace hv : vs.length = 1 := hv
  revert hv; revert vs
  refine len_s ?_; intro v0
  refine len_z ?_
  exact BindsTo.of_eq (by kernel_rfl)
abbrev ns_law : List Str := [a_script, a_pot, a_procedures, a_number, a_text, a_told, a_lines, a_at, a_spoilt, a_error]
theorem nm_law : NamesOk args_law scope_law ns_law := ⟨⟨[a_pot, a_procedures, a_number, a_text, a_told, a_lines, a_at, a_spoilt, a_error], by kernel_rfl⟩, by decide +kernel, by decide +kernel, by decide +kernel, rfl, by decide +kernel, rfl, rfl⟩
theorem gl_law {W : Wd} (hI : W.Is) : nsIn W.K mainGlobals a_law = some (some (.ref f_law)) := by rw [hI.K]; kernel_rfl
theorem gl_Procedure {W : Wd} (hI : W.Is) : nsIn W.K mainGlobals a_Procedure = some (some (.ref C_Procedure)) := by rw [hI.K]; kernel_rfl
theorem kp_Procedure {W : Wd} (hI : W.Is) : keepIn W.K (.ref C_Procedure) = true := by rw [hI.K]; kernel_rfl
theorem gl_Listing {W : Wd} (hI : W.Is) : nsIn W.K mainGlobals a_Listing = some (some (.ref C_Listing)) := by rw [hI.K]; kernel_rfl
theorem kp_Listing {W : Wd} (hI : W.Is) : keepIn W.K (.ref C_Listing) = true := by rw [hI.K]; kernel_rfl
theorem gl_BadListing {W : Wd} (hI : W.Is) : nsIn W.K mainGlobals a_BadListing = some (some (.ref C_BadListing)) := by rw [hI.K]; kernel_rfl
theorem kp_BadListing {W : Wd} (hI : W.Is) : keepIn W.K (.ref C_BadListing) = true := by rw [hI.K]; kernel_rfl
theorem mk_Procedure {W : Wd} (hI : W.Is) : makesIn W.K C_Procedure = true := by rw [hI.K]; kernel_rfl
theorem mi_Procedure {W : Wd} (hI : W.Is) : findIn W.K (.ref C_Procedure) "__init__" = some (some (.ref f_Procedure_init)) := by rw [hI.K]; kernel_rfl
theorem mf_Procedure {W : Wd} (hI : W.Is) : isFn W.K (.ref f_Procedure_init) = true := by rw [hI.K]; kernel_rfl
theorem mk_Listing {W : Wd} (hI : W.Is) : makesIn W.K C_Listing = true := by rw [hI.K]; kernel_rfl
theorem mi_Listing {W : Wd} (hI : W.Is) : findIn W.K (.ref C_Listing) "__init__" = some (some (.ref f_Listing_init)) := by rw [hI.K]; kernel_rfl
theorem mf_Listing {W : Wd} (hI : W.Is) : isFn W.K (.ref f_Listing_init) = true := by rw [hI.K]; kernel_rfl
theorem ga_Procedure_number {W : Wd} (hI : W.Is) : okGet W.K C_Procedure a_number = true := by rw [hI.K]; kernel_rfl
theorem sa_Procedure_number {W : Wd} (hI : W.Is) : okSet W.K C_Procedure a_number = true := by rw [hI.K]; kernel_rfl
theorem ga_Procedure_title {W : Wd} (hI : W.Is) : okGet W.K C_Procedure a_title = true := by rw [hI.K]; kernel_rfl
theorem sa_Procedure_title {W : Wd} (hI : W.Is) : okSet W.K C_Procedure a_title = true := by rw [hI.K]; kernel_rfl
theorem ga_Procedure_needed {W : Wd} (hI : W.Is) : okGet W.K C_Procedure a_needed = true := by rw [hI.K]; kernel_rfl
theorem sa_Procedure_needed {W : Wd} (hI : W.Is) : okSet W.K C_Procedure a_needed = true := by rw [hI.K]; kernel_rfl
theorem ga_Procedure_has_rest {W : Wd} (hI : W.Is) : okGet W.K C_Procedure a_has_rest = true := by rw [hI.K]; kernel_rfl
theorem sa_Procedure_has_rest {W : Wd} (hI : W.Is) : okSet W.K C_Procedure a_has_rest = true := by rw [hI.K]; kernel_rfl
theorem ga_Procedure_is_continuation {W : Wd} (hI : W.Is) : okGet W.K C_Procedure a_is_continuation = true := by rw [hI.K]; kernel_rfl
theorem sa_Procedure_is_continuation {W : Wd} (hI : W.Is) : okSet W.K C_Procedure a_is_continuation = true := by rw [hI.K]; kernel_rfl
theorem ga_Procedure_registers {W : Wd} (hI : W.Is) : okGet W.K C_Procedure a_registers = true := by rw [hI.K]; kernel_rfl
theorem sa_Procedure_registers {W : Wd} (hI : W.Is) : okSet W.K C_Procedure a_registers = true := by rw [hI.K]; kernel_rfl
theorem ga_Procedure_free {W : Wd} (hI : W.Is) : okGet W.K C_Procedure a_free = true := by rw [hI.K]; kernel_rfl
theorem sa_Procedure_free {W : Wd} (hI : W.Is) : okSet W.K C_Procedure a_free = true := by rw [hI.K]; kernel_rfl
theorem ga_Procedure_instructions {W : Wd} (hI : W.Is) : okGet W.K C_Procedure a_instructions = true := by rw [hI.K]; kernel_rfl
theorem sa_Procedure_instructions {W : Wd} (hI : W.Is) : okSet W.K C_Procedure a_instructions = true := by rw [hI.K]; kernel_rfl
theorem ga_Listing_text {W : Wd} (hI : W.Is) : okGet W.K C_Listing a_text = true := by rw [hI.K]; kernel_rfl
theorem sa_Listing_text {W : Wd} (hI : W.Is) : okSet W.K C_Listing a_text = true := by rw [hI.K]; kernel_rfl
theorem ga_Listing_place {W : Wd} (hI : W.Is) : okGet W.K C_Listing a_place = true := by rw [hI.K]; kernel_rfl
theorem sa_Listing_place {W : Wd} (hI : W.Is) : okSet W.K C_Listing a_place = true := by rw [hI.K]; kernel_rfl
theorem ga_Listing_line {W : Wd} (hI : W.Is) : okGet W.K C_Listing a_line = true := by rw [hI.K]; kernel_rfl
theorem sa_Listing_line {W : Wd} (hI : W.Is) : okSet W.K C_Listing a_line = true := by rw [hI.K]; kernel_rfl
theorem bi_len {W : Wd} (hI : W.Is) : IsBi W a_len "len" := ⟨by rw [hI.K]; kernel_rfl, by kernel_rfl, by decide +kernel⟩
theorem bi_list {W : Wd} (hI : W.Is) : IsTy W a_list "list" := ⟨by rw [hI.K]; kernel_rfl, by kernel_rfl, by decide +kernel⟩
theorem bi_zip {W : Wd} (hI : W.Is) : IsTy W a_zip "zip" := ⟨by rw [hI.K]; kernel_rfl, by kernel_rfl, by decide +kernel⟩
theorem bi_int {W : Wd} (hI : W.Is) : IsTy W a_int "int" := ⟨by rw [hI.K]; kernel_rfl, by kernel_rfl, by decide +kernel⟩
theorem bi_str {W : Wd} (hI : W.Is) : IsTy W a_str "str" := ⟨by rw [hI.K]; kernel_rfl, by kernel_rfl, by decide +kernel⟩
theorem tx_a_r : a_r.cps.toList = [114] := rfl
theorem tx_a_L : a_L.cps.toList = [76] := rfl
theorem tx_t_4 : t_4.cps.toList = [32] := rfl
theorem tx_t_10 : t_10.cps.toList = [10] := rfl
theorem tx_t_24 : t_24.cps.toList = [76, 57, 32] := rfl
theorem tx_t_7 : t_7.cps.toList = [32, 112] := rfl
noncomputable def CallR (W : Wd) (x : Str) (v : Value) : Prop := ∀ {Γ : Fc} {n : Nat} {m : Loc} {S : Store} {X : Int → Prop} {cs : Scope} {ns : List Str} {cl : List (Str × Addr)} {npos pos : Pos} {a : Expr} {rest : List Expr} {Q : AV → Store → Prop}, FcIs Γ cs ns cl → isGl cs x = true → plainArgs (a :: rest) = true →
  WEs W Γ n pos (a :: rest) m S (KCal W Γ n v m Q X) X → WE W Γ n (.Call (.Name x npos) (a :: rest) [] pos) m S Q X
theorem c_fn {W : Wd} {x : Str} {g : Addr} (e : nsIn W.K mainGlobals x = some (some (.ref g))) (hk : keepIn W.K (.ref g) = true) : CallR W x (.ref g) := fun hF gx hs q => n_call hF gx e hk hs q
theorem c_bi {W : Wd} {x : Str} {g : String} (b : IsBi W x g) : CallR W x (.builtin g) := fun hF gx hs q => n_bi hF gx b hs q
theorem c_ty {W : Wd} {x : Str} {g : String} (b : IsTy W x g) : CallR W x (.type g) := fun hF gx hs q => n_ty hF gx b hs q
inductive TabG (W : Wd) : List Str → List Value → Prop
  | nil : TabG W [] []
  | cons (x : Str) (v : Value) (ns : List Str) (vs : List Value) : CallR W x v → TabG W ns vs → TabG W (x :: ns) (v :: vs)
theorem TabG.at {W : Wd} {ns : List Str} {vs : List Value} (t : TabG W ns vs) : ∀ {x : Str} {i : Nat} {v : Value}, Ix x i ns → vs[i]? = some v → CallR W x v := by
  induction t with
  | nil => intro x i v h; cases h
  | cons x v ns vs c _ ih =>
    intro y i w h e
    cases h with
    | z => cases e; exact c
    | s _ n _ h => exact ih h e
def gnames : List Str := [a_operand_pairs, a_label_of, a_labels_met, a_registers_text, a_operand_text, a_instruction_text, a_procedure_lines, a_code_text, a_is_figures, a_read_registers, a_read_rows, a_read_operand, a_read_instruction, a_read_label, a_read_instructions, a_read_procedure, a_read_procedures, a_read_code, a__law_pot, a__law_dip, a__law_names, a__law_steps, a__law_wrong, a_len, a_sorted, a_sum, a_chr, a_list, a_zip, a_tuple, a_dict, a_enumerate, a_range, a_int, a_str]
def gvals : List Value := [.ref f_operand_pairs, .ref f_label_of, .ref f_labels_met, .ref f_registers_text, .ref f_operand_text, .ref f_instruction_text, .ref f_procedure_lines, .ref f_code_text, .ref f_is_figures, .ref f_read_registers, .ref f_read_rows, .ref f_read_operand, .ref f_read_instruction, .ref f_read_label, .ref f_read_instructions, .ref f_read_procedure, .ref f_read_procedures, .ref f_read_code, .ref f_law_pot, .ref f_law_dip, .ref f_law_names, .ref f_law_steps, .ref f_law_wrong, .builtin "len", .builtin "sorted", .builtin "sum", .builtin "chr", .type "list", .type "zip", .type "tuple", .type "dict", .type "enumerate", .type "range", .type "int", .type "str"]
theorem gtab {W : Wd} (hI : W.Is) : TabG W gnames gvals := .cons _ _ _ _ (c_fn (by rw [hI.K]; kernel_rfl) (by rw [hI.K]; kernel_rfl)) (
  .cons _ _ _ _ (c_fn (by rw [hI.K]; kernel_rfl) (by rw [hI.K]; kernel_rfl)) (
  .cons _ _ _ _ (c_fn (by rw [hI.K]; kernel_rfl) (by rw [hI.K]; kernel_rfl)) (
  .cons _ _ _ _ (c_fn (gl_registers_text hI) (kp_registers_text hI)) (
  .cons _ _ _ _ (c_fn (gl_operand_text hI) (kp_operand_text hI)) (
  .cons _ _ _ _ (c_fn (by rw [hI.K]; kernel_rfl) (by rw [hI.K]; kernel_rfl)) (
  .cons _ _ _ _ (c_fn (by rw [hI.K]; kernel_rfl) (by rw [hI.K]; kernel_rfl)) (
  .cons _ _ _ _ (c_fn (by rw [hI.K]; kernel_rfl) (by rw [hI.K]; kernel_rfl)) (
  .cons _ _ _ _ (c_fn (by rw [hI.K]; kernel_rfl) (by rw [hI.K]; kernel_rfl)) (
  .cons _ _ _ _ (c_fn (by rw [hI.K]; kernel_rfl) (by rw [hI.K]; kernel_rfl)) (
  .cons _ _ _ _ (c_fn (by rw [hI.K]; kernel_rfl) (by rw [hI.K]; kernel_rfl)) (
  .cons _ _ _ _ (c_fn (by rw [hI.K]; kernel_rfl) (by rw [hI.K]; kernel_rfl)) (
  .cons _ _ _ _ (c_fn (by rw [hI.K]; kernel_rfl) (by rw [hI.K]; kernel_rfl)) (
  .cons _ _ _ _ (c_fn (by rw [hI.K]; kernel_rfl) (by rw [hI.K]; kernel_rfl)) (
  .cons _ _ _ _ (c_fn (by rw [hI.K]; kernel_rfl) (by rw [hI.K]; kernel_rfl)) (
  .cons _ _ _ _ (c_fn (by rw [hI.K]; kernel_rfl) (by rw [hI.K]; kernel_rfl)) (
  .cons _ _ _ _ (c_fn (by rw [hI.K]; kernel_rfl) (by rw [hI.K]; kernel_rfl)) (
  .cons _ _ _ _ (c_fn (by rw [hI.K]; kernel_rfl) (by rw [hI.K]; kernel_rfl)) (
  .cons _ _ _ _ (c_fn (by rw [hI.K]; kernel_rfl) (by rw [hI.K]; kernel_rfl)) (
  .cons _ _ _ _ (c_fn (gl_law_dip hI) (kp_law_dip hI)) (
  .cons _ _ _ _ (c_fn (gl_law_names hI) (kp_law_names hI)) (
  .cons _ _ _ _ (c_fn (by rw [hI.K]; kernel_rfl) (by rw [hI.K]; kernel_rfl)) (
  .cons _ _ _ _ (c_fn (by rw [hI.K]; kernel_rfl) (by rw [hI.K]; kernel_rfl)) (
  .cons _ _ _ _ (c_bi (bi_len hI)) (
  .cons _ _ _ _ (c_bi ⟨by rw [hI.K]; kernel_rfl, by kernel_rfl, by decide +kernel⟩) (
  .cons _ _ _ _ (c_bi ⟨by rw [hI.K]; kernel_rfl, by kernel_rfl, by decide +kernel⟩) (
  .cons _ _ _ _ (c_bi ⟨by rw [hI.K]; kernel_rfl, by kernel_rfl, by decide +kernel⟩) (
  .cons _ _ _ _ (c_ty (bi_list hI)) (
  .cons _ _ _ _ (c_ty (bi_zip hI)) (
  .cons _ _ _ _ (c_ty ⟨by rw [hI.K]; kernel_rfl, by kernel_rfl, by decide +kernel⟩) (
  .cons _ _ _ _ (c_ty ⟨by rw [hI.K]; kernel_rfl, by kernel_rfl, by decide +kernel⟩) (
  .cons _ _ _ _ (c_ty ⟨by rw [hI.K]; kernel_rfl, by kernel_rfl, by decide +kernel⟩) (
  .cons _ _ _ _ (c_ty ⟨by rw [hI.K]; kernel_rfl, by kernel_rfl, by decide +kernel⟩) (
  .cons _ _ _ _ (c_ty (bi_int hI)) (
  .cons _ _ _ _ (c_ty (bi_str hI)) (
  .nil)))))))))))))))))))))))))))))))))))
theorem n_callT {W : Wd} {Γ : Fc} {n : Nat} {m : Loc} {S : Store} {X : Int → Prop} {cs : Scope} {ns : List Str} {cl : List (Str × Addr)} {x : Str} {npos pos : Pos} {a : Expr} {rest : List Expr} {v : Value} {i : Nat} {Q : AV → Store → Prop} (hF : FcIs Γ cs ns cl) (gx : isGl cs x = true) (hI : W.Is) (h : Ix x i gnames) (e : gvals[i]? = some v) (hs : plainArgs (a :: rest) = true)
    (q : WEs W Γ n pos (a :: rest) m S (KCal W Γ n v m Q X) X) : WE W Γ n (.Call (.Name x npos) (a :: rest) [] pos) m S Q X := (gtab hI).at h e hF gx hs q
theorem sl_append : Slot "list" a_append "list.append" := by
  have e : Str.ofString "append" = a_append := by kernel_rfl
  rw [← e]; exact slot_list_append
inductive KAp2 (l : Addr) (Q : AV → Store → Prop) (x : AV) (S : Store) : Prop
  | mk (as : List AV) (h : S l = some (.lst as)) (hz : as.length ≤ 100000) (q : Q .none (upd S l (.lst (as ++ [x]))))
inductive KApp (W : Wd) (Γ : Fc) (n : Nat) (e : Expr) (m : Loc) (Q : AV → Store → Prop) (X : Int → Prop) (v : AV) (S : Store) : Prop
  | mk (l : Addr) (as : List AV) (ev : v = .ref l) (h : S l = some (.lst as)) (q : WE W Γ n e m S (KAp2 l Q) X)
theorem n_append {W : Wd} {Γ : Fc} {n : Nat} {m : Loc} {S : Store} {X : Int → Prop} {y : Str} {p apos pos : Pos} {e : Expr} {Q : AV → Store → Prop} (h1 : noStar e = true) (h3 : (apos.endLine == pos.line) = true)
    (h : WE W Γ n (.Name y p) m S (KApp W Γ n e m Q X) X) : WE W Γ n (.Call (.Attribute (.Name y p) a_append apos) [e] [] pos) m S Q X := by
  refine n_bmeth (by unfold plainArgs; rw [List.all_cons, h1]; rfl) rfl h3 (fun _ => rfl) (h.mono ?_)
  rintro v S1 ⟨l, as, rfl, e1, q⟩
  refine ⟨_, bm_lst e1 sl_append rfl, ns_cons h1 (q.mono ?_)⟩
  rintro x S2 ⟨as2, e2, hz, q⟩
  exact es_nil (f_append e2 q hz)
noncomputable abbrev A_OPERANDS : Addr := 35
noncomputable abbrev A_LETTERS : Addr := 91
theorem gl_OPERANDS {W : Wd} (hI : W.Is) : nsIn W.K mainGlobals a_OPERANDS = some (some (.ref A_OPERANDS)) := by rw [hI.K]; kernel_rfl
theorem gl_LETTERS {W : Wd} (hI : W.Is) : nsIn W.K mainGlobals a_LETTERS = some (some (.ref A_LETTERS)) := by rw [hI.K]; kernel_rfl
def tnames : List Str := [a_OPERANDS, a_LETTERS]
noncomputable def tvals : List Addr := [A_OPERANDS, A_LETTERS]
theorem n_globT {W : Wd} {Γ : Fc} {n : Nat} {m : Loc} {S : Store} {X : Int → Prop} {cs : Scope} {ns : List Str} {cl : List (Str × Addr)} {x : Str} {pos : Pos} {f : Addr} {i : Nat} {Q : AV → Store → Prop} (hF : FcIs Γ cs ns cl) (gx : isGl cs x = true) (hI : W.Is) (h : Ix x i tnames) (e : tvals[i]? = some f) (q : Q (.ref f) S) : WE W Γ n (.Name x pos) m S Q X := by
  refine n_glob (v := .ref f) hF gx ?_ (.ref _) q
  unfold tnames at h
  unfold tvals at e
  cases h with
  | z => cases e; exact gl_OPERANDS hI
  | s _ _ _ h =>
    cases h with
    | z => cases e; exact gl_LETTERS hI
    | s _ _ _ h => cases h
end
section
theorem ite_b {c : Bool} {A B : Prop} (h1 : c = true → A) (h2 : c = false → B) : if c = true then A else B := by
  cases c with
  | true => rw [if_pos rfl]; exact h1 rfl
  | false => rw [if_neg (by decide)]; exact h2 rfl
theorem if_t {A B : Prop} (h : A) : if true = true then A else B := h
theorem if_f {A B : Prop} (h : B) : if false = true then A else B := h
theorem if_nf {A B : Prop} (h : A) : if (!false) = true then A else B := h
theorem if_nt {A B : Prop} (h : B) : if (!true) = true then A else B := h
theorem upd_self {S : Store} {a : Addr} {o : AO} (h : S a = some o) : upd S a o = S := by
  funext b; unfold upd; split
  · rename_i e; rw [e]; exact h.symm
  · rfl
end
set_option hygiene false
local macro_rules | `(tactic| walk_at "ix") => `(tactic| first | exact Ix.z _ | (refine Ix.s _ ?_ _ ?_; rotate_left; walk_at "ix"))
local macro_rules | `(tactic| walk_at "w") => `(tactic| first
  | with_reducible first
    | refine s_cons ?_ | refine s_ret ?_ | refine s_if ?_ | refine e_int ?_ | refine e_none ?_ | refine if_t ?_ | refine if_f ?_ | refine if_nf ?_ | refine if_nt ?_ | refine e_bool ?_ | refine e_bin ?_ | refine e_sslice ?_ | refine e_sub ?_ | refine e_if ?_ | refine t_not ?_ | refine t_bool ?_ | refine ts_and ?_ | refine ts_or ?_ | refine ts_and_nil ?_ | refine ts_or_nil ?_ | refine n_attr ?_ | refine p_some ?_ | refine e_or ?_ | refine e_one ?_ | refine p_none ?_ | refine s_nil ?_ | refine es_nil ?_
  | ((with_reducible first | refine n_sattr ?_ ?_ | refine n_cmp ?_ ?_ | refine nt_cmp ?_ ?_ | refine ns_cons ?_ ?_ | refine nt_val ?_ ?_ | refine n_meth0 ?_ ?_ | refine n_for (by assumption) ?_ ?_ | (refine e_lit (l := ?_) ?_ ?_; rotate_left)); exact rfl)
  | ((with_reducible first | refine n_expr (by assumption) ?_ ?_ ?_ | refine n_append ?_ ?_ ?_); exact rfl; exact rfl)
  | ((with_reducible refine n_meth ?_ ?_ ?_ ?_); exact rfl; exact rfl; exact rfl)
  | ((with_reducible first | (refine n_assign (i := ?_) (by assumption) ?_ ?_ ?_; rotate_left) | (refine n_name (i := ?_) (av := ?_) (by assumption) ?_ ?_ ?_; rotate_left 2)); walk_at "ix"; exact rfl)
  | ((with_reducible refine n_globT (f := ?_) (i := ?_) (by assumption) ?_ (by assumption) ?_ ?_ ?_); rotate_left 2; kernel_rfl; walk_at "ix"; exact rfl)
  | ((with_reducible refine n_callT (v := ?_) (i := ?_) (by assumption) ?_ (by assumption) ?_ ?_ ?_ ?_); rotate_left 2; kernel_rfl; walk_at "ix"; exact rfl; exact rfl))
local macro_rules | `(tactic| walk_at "ws") => `(tactic| repeat walk_at "w")
set_option hygiene true
set_option hygiene true
section
noncomputable def F (t r : List Nat) (l : Nat) : AO := .flds [(a_text, .str t), (a_place, .int ((t.length - r.length : Nat) : Int)), (a_line, .int (l : Int))]
structure LS (S : Store) (a d : Addr) (t r : List Nat) (l : Nat) : Prop where
  inst : S a = some (.inst C_Listing d)
  flds : S d = some (F t r l)
  suf : r <:+ t
  sz : t.length ≤ 10000
section
variable {S : Store} {a d : Addr} {t r r' : List Nat} {l l' : Nat} {W : Wd}
theorem LS.ne (h : LS S a d t r l) : a ≠ d := fun q => by
  have h1 := h.inst; rw [q, h.flds] at h1; cases h1
theorem LS.upd (h : LS S a d t r l) (k : r' <:+ t) : LS (upd S d (F t r' l')) a d t r' l' :=
  ⟨by rw [upd_ne h.ne]; exact h.inst, upd_same _ _ _, k, h.sz⟩
theorem LS.text (hI : W.Is) (h : LS S a d t r l) {P : AV → Store → Prop} (q : P (.str t) S) : KAtt W a_text P (.ref a) S :=
  ⟨a, C_Listing, d, _, _, rfl, h.inst, h.flds, by kernel_rfl, ga_Listing_text hI, q⟩
theorem LS.place (hI : W.Is) (h : LS S a d t r l) {P : AV → Store → Prop} (q : P (.int ((t.length - r.length : Nat) : Int)) S) : KAtt W a_place P (.ref a) S :=
  ⟨a, C_Listing, d, _, _, rfl, h.inst, h.flds, by kernel_rfl, ga_Listing_place hI, q⟩
theorem LS.line (hI : W.Is) (h : LS S a d t r l) {P : AV → Store → Prop} (q : P (.int (l : Int)) S) : KAtt W a_line P (.ref a) S :=
  ⟨a, C_Listing, d, _, _, rfl, h.inst, h.flds, by kernel_rfl, ga_Listing_line hI, q⟩
theorem LS.me (h : LS S a d t r l) {x : Str} {g : Addr} (hg : okMeth W.K C_Listing x g = true) {P : Addr → Addr → Store → Prop} (q : P a g S)
    (hf : ∀ t p l : AV, fget x [(a_text, t), (a_place, p), (a_line, l)] = none := by intros; kernel_rfl) : KRecv W x P (.ref a) S :=
  ⟨a, C_Listing, d, _, g, rfl, h.inst, h.flds, hf _ _ _, hg, q⟩
theorem LS.len (h : LS S a d t r l) : r.length ≤ t.length := h.suf.length_le
theorem LS.get (h : LS S a d t r l) (k : Nat) : t[t.length - r.length + k]? = r[k]? := by
  obtain ⟨p, hp⟩ := h.suf
  subst hp
  rw [List.length_append, Nat.add_sub_cancel, List.getElem?_append_right (by lia)]
  congr 1; lia
end
theorem setPlace (t r : List Nat) (l : Nat) (v : Int) : fset a_place (.int v) [(a_text, .str t), (a_place, .int ((t.length - r.length : Nat) : Int)), (a_line, .int (l : Int))] = [(a_text, .str t), (a_place, .int v), (a_line, .int (l : Int))] := by kernel_rfl
section
variable {W : Wd} {Γ : Fc} {n : Nat} {m : Loc} {S : Store} {X : Int → Prop} {Q : AV → Store → Prop} {a d : Addr} {t r : List Nat} {l : Nat}
theorem is_at_end_ok (hW : W.Ok) (hI : W.Is) (L : LS S a d t r l) (q : Q (.bool (decide (r = []))) S) : WK W Γ 3 (.ref f_Listing_is_at_end) [.ref a] m S Q X := by
  refine n_enter (fn_Listing_is_at_end hW hI) nm_Listing_is_at_end rfl fun Γ' hF => ?_
  refine s_cons ?_
  walk_at "ws"
  refine L.place hI ?_
  walk_at "ws"
  refine L.text hI ?_
  walk_at "ws"
  refine f_len_str ?_ (by have := L.sz; lia)
  refine c_gei ?_
  refine ret_now ?_
  have e : decide ((t.length : Int) ≤ ((t.length - r.length : Nat) : Int)) = decide (r = []) := by
    have h := L.len
    rw [decide_eq_decide]
    constructor
    · intro h1
      exact List.eq_nil_of_length_eq_zero (by lia)
    · rintro rfl; simp
  rw [e]
  exact q
noncomputable def skip (r : List Nat) : List Nat := r.dropWhile (· == 32)
theorem skip_suf (r : List Nat) : skip r <:+ r := List.dropWhile_suffix _
theorem skip_blanks_ok (hW : W.Ok) (hI : W.Is) (L : LS S a d t r l) (q : Q .none (upd S d (F t (skip r) l))) : WK W Γ 3 (.ref f_Listing_skip_blanks) [.ref a] m S Q X := by
  refine n_enter (fn_Listing_skip_blanks hW hI) nm_Listing_skip_blanks rfl fun Γ' hF => ?_
  refine s_cons (n_while hF (fun k m1 S1 => m1 = loc0 ns_Listing_skip_blanks [AV.ref a] ∧ ∃ r1, LS S1 a d t r1 l ∧ skip r1 = skip r ∧ S1 = upd S d (F t r1 l) ∧ k = r1.length) r.length
    ⟨rfl, r, L, rfl, (upd_self L.flds).symm, rfl⟩ ?_)
  rintro k m1 S1 ⟨rfl, r1, L1, e1, rfl, rfl⟩
  walk_at "ws"
  refine L1.place hI ?_
  walk_at "ws"
  refine L1.text hI ?_
  walk_at "ws"
  have hl := L1.len
  refine f_len_str ?_ (by have := L1.sz; lia)
  refine c_lti ⟨_, rfl, ite_b (fun h1 => ?_) fun h1 => ?_⟩
  · have h2 : r1 ≠ [] := by
      rintro rfl
      simp at h1
    obtain ⟨c, r2, rfl⟩ := List.exists_cons_of_ne_nil h2
    walk_at "ws"
    refine L1.text hI ?_
    walk_at "ws"
    refine L1.place hI ?_
    refine i_str (c := c) (by have := L1.get 0; simpa using this) (by have := L1.sz; lia) ?_
    walk_at "ws"
    refine c_eqs ⟨_, rfl, ite_b (fun h3 => ?_) fun h3 => ?_⟩
    · have hc : c = 32 := by simpa [tx_t_4] using h3
      subst hc
      refine ts_and_nil ?_
      refine if_t ?_
      refine s_cons ?_
      walk_at "ws"
      refine L1.place hI ?_
      walk_at "ws"
      refine b_addi ?_
      walk_at "ws"
      refine ⟨a, C_Listing, d, _, _, rfl, L1.inst, L1.flds, sa_Listing_place hI, by simp, rfl, ?_⟩
      rw [setPlace, upd_upd]
      refine s_nil ?_
      have hs2 : r2 <:+ t := (List.suffix_cons 32 r2).trans L1.suf
      have e3 : AO.flds [(a_text, .str t), (a_place, .int (((t.length - (32 :: r2).length : Nat) : Int) + 1)), (a_line, .int (l : Int))] = F t r2 l := by
        unfold F
        have h5 : (((t.length - (32 :: r2).length : Nat) : Int) + 1) = ((t.length - r2.length : Nat) : Int) := by
          simp only [List.length_cons] at hl ⊢
          lia
        rw [h5]
      rw [e3]
      exact ⟨_, Nat.lt_succ_self _, rfl, r2, L.upd hs2, by rw [← e1]; rfl, rfl, rfl⟩
    · refine if_f ?_
      refine s_nil (nxt_now ?_)
      have hk : skip (c :: r2) = c :: r2 := by
        unfold skip
        rw [List.dropWhile_cons, if_neg]
        simpa [tx_t_4] using h3
      rw [← e1, hk] at q
      exact q
  · refine if_f ?_
    refine s_nil (nxt_now ?_)
    have h2 : r1 = [] := by
      simp at h1
      exact List.eq_nil_of_length_eq_zero (by lia)
    subst h2
    rw [← e1] at q
    exact q
theorem lk_bad (P : Params) : (heapK P).lookup C_BadListing = some (o_19 P) := by kernel_rfl
theorem bad_ok {W : Wd} (hW : W.Ok) (hI : W.Is) : BadOk W f_BadListing_init (.ref 27) args_BadListing_init body_BadListing_init scope_BadListing_init q_BadListing_init where
  cls := by
    rw [hI.K, hI.bad]
    exact ⟨_, _, _, _, _, _, _, _, _, _, _, _, _, _, lk_bad _, by kernel_rfl, by kernel_rfl, by kernel_rfl, by kernel_rfl, by kernel_rfl⟩
  fn := fn_BadListing_init hW hI
  names := ⟨⟨[], by kernel_rfl⟩, by decide +kernel, by decide +kernel, by decide +kernel, rfl, by decide +kernel, rfl, rfl⟩
  args := by kernel_rfl
  body := ⟨_, _, _, _, _, _, _, _, by
    have h1 : Str.ofString "self" = a_self := by kernel_rfl
    have h2 : Str.ofString "line" = a_line := by kernel_rfl
    have h3 : Str.ofString "word" = a_word := by kernel_rfl
    rw [h1, h2, h3]
    exact rfl⟩
theorem refuse_ok {w : AV} (hW : W.Ok) (hI : W.Is) (L : LS S a d t r l) (x : X l) : WK W Γ 4 (.ref f_Listing_refuse) [.ref a, w] m S Q X := by
  refine n_enter (fn_Listing_refuse hW hI) nm_Listing_refuse rfl fun Γ' hF => ?_
  refine s_cons ?_
  have g := gl_of hF (x := a_BadListing) (by kernel_rfl)
  have gb := gl_BadListing hI
  have kb := kp_BadListing hI
  rw [← hI.bad] at gb kb
  refine s_raise (bad_ok hW hI) gb kb ?_ g.1 g.2.1 g.2.2 (fun _ => rfl) (star_cons rfl) (star_none rfl)
  walk_at "ws"
  refine L.line hI ?_
  walk_at "ws"
  exact ⟨_, _, rfl, x⟩
noncomputable def notSep (c : Nat) : Bool := !decide (c ∈ [32, 40, 41, 10])
noncomputable def wordAt : List Nat → List Nat
  | [] => []
  | c :: r => if decide (c ∈ [40, 41]) then [c] else (c :: r).takeWhile notSep
theorem LS.slice (h : LS S a d t r l) (k : Nat) : sl t (some (t.length - r.length)) (some (t.length - r.length + k)) = r.take k := by
  obtain ⟨p, hp⟩ := h.suf
  subst hp
  show ((p ++ r).take _).drop _ = _
  rw [List.length_append, Nat.add_sub_cancel, List.take_append, List.drop_append]
  simp
theorem tw_more {p : Nat → Bool} : ∀ {u : List Nat} {j : Nat} (h : j < u.length), j ≤ (u.takeWhile p).length → p u[j] = true → j + 1 ≤ (u.takeWhile p).length
  | c :: u, 0, _, _, hp => by
    rw [List.takeWhile_cons, if_pos (show p c = true from hp)]; simp
  | c :: u, j + 1, h, h2, hp => by
    rw [List.takeWhile_cons] at h2 ⊢
    split at h2
    · rename_i hc
      rw [if_pos hc]
      have := tw_more (u := u) (j := j) (by simpa using h) (by simpa using h2) (by simpa using hp)
      simpa using this
    · simp at h2
theorem tw_stop {p : Nat → Bool} : ∀ {u : List Nat} {j : Nat}, j ≤ (u.takeWhile p).length → (∀ h : j < u.length, p u[j] = false) → u.take j = u.takeWhile p
  | [], j, _, _ => by simp
  | c :: u, 0, _, h2 => by
    have := h2 (by simp)
    rw [List.takeWhile_cons, if_neg (by simpa using this)]; rfl
  | c :: u, j + 1, h, h2 => by
    rw [List.takeWhile_cons] at h ⊢
    split at h
    · rename_i hc
      rw [if_pos hc, List.take_succ_cons]
      rw [tw_stop (u := u) (j := j) (by simpa using h) (fun h' => by have := h2 (Nat.succ_lt_succ h'); simpa using this)]
    · simp at h
theorem Bnd_nat (k : Nat) : Bnd (.int (k : Int)) = some (some k) := by
  show (if (0 : Int) ≤ (k : Int) then some (some (k : Int).toNat) else none) = _
  rw [if_pos (by lia)]; simp
theorem peek_ok (hW : W.Ok) (hI : W.Is) (L : LS S a d t r l) (q : Q (.str (wordAt (skip r))) (upd S d (F t (skip r) l))) : WK W Γ 4 (.ref f_Listing_peek) [.ref a] m S Q X := by
  refine n_enter (fn_Listing_peek hW hI) nm_Listing_peek rfl fun Γ' hF => ?_
  refine s_cons ?_
  walk_at "ws"
  refine L.me (me_Listing_skip_blanks hI) ?_
  refine (skip_blanks_ok hW hI L ?_).toF
  have L2 := L.upd (l' := l) ((skip_suf r).trans L.suf)
  revert q L2
  generalize skip r = u
  generalize upd S d (F t u l) = S2
  intro q L2
  have hl := L2.len
  walk_at "ws"
  refine L2.place hI ?_
  walk_at "ws"
  refine L2.text hI ?_
  walk_at "ws"
  refine f_len_str ?_ (by have := L2.sz; lia)
  have tail : ∀ m1 : Loc, m1 = List.set (loc0 ns_Listing_peek [AV.ref a]) 1 (some (.int ((t.length - u.length : Nat) : Int))) → wordAt u = u.takeWhile notSep →
      WS W Γ' 3 (body_Listing_peek.drop 3) m1 S2 (RetQ Q) X := by
    rintro m1 rfl hw
    rw [hw] at q
    refine s_cons (n_while hF (fun k m2 S3 => S3 = S2 ∧ ∃ j, j ≤ (u.takeWhile notSep).length ∧ m2 = List.set (loc0 ns_Listing_peek [AV.ref a]) 1 (some (.int ((t.length - u.length + j : Nat) : Int))) ∧ k = u.length - j) u.length ⟨rfl, 0, Nat.zero_le _, rfl, rfl⟩ ?_)
    rintro k m2 S3 ⟨rfl, j, hj, rfl, rfl⟩
    have htw : (u.takeWhile notSep).length ≤ u.length := (List.takeWhile_prefix _).length_le
    have last : (∀ h : j < u.length, notSep u[j] = false) → WS W Γ' 3 (body_Listing_peek.drop 4) (List.set (loc0 ns_Listing_peek [AV.ref a]) 1 (some (.int ((t.length - u.length + j : Nat) : Int)))) S3 (RetQ Q) X := by
      intro hs
      refine s_cons ?_
      walk_at "ws"
      refine L2.text hI ?_
      walk_at "ws"
      refine L2.place hI ?_
      walk_at "ws"
      refine ⟨t, _, _, rfl, Bnd_nat _, Bnd_nat _, by have := L2.sz; lia, ?_⟩
      rw [L2.slice, tw_stop hj hs]
      exact ret_now q
    walk_at "ws"
    refine L2.text hI ?_
    walk_at "ws"
    refine f_len_str ?_ (by have := L2.sz; lia)
    refine c_lti ⟨_, rfl, ite_b (fun h1 => ?_) fun h1 => ?_⟩
    · have h2 : j < u.length := by have := of_decide_eq_true h1; lia
      refine ts_and (t_cmp (e_sub ?_))
      walk_at "ws"
      refine L2.text hI ?_
      walk_at "ws"
      refine i_str (c := u[j]) (by rw [L2.get j, List.getElem?_eq_getElem h2]) (by have := L2.sz; lia) ?_
      refine e_str rfl ?_
      refine c_ninc ⟨_, rfl, ite_b (fun h3 => ?_) fun h3 => ?_⟩
      · refine ts_and_nil ?_
        refine if_t ?_
        refine s_cons ?_
        walk_at "ws"
        refine b_addi ?_
        walk_at "ws"
        exact ⟨u.length - (j + 1), by lia, rfl, j + 1, tw_more h2 hj h3, by rw [show ((t.length - u.length + (j + 1) : Nat) : Int) = ((t.length - u.length + j : Nat) : Int) + 1 from by lia]; rfl, rfl⟩
      · refine if_f ?_
        exact last fun _ => h3
    · refine if_f ?_
      exact last fun h => absurd h (by have := of_decide_eq_false h1; lia)
  refine c_lti ⟨_, rfl, ite_b (fun h1 => ?_) fun h1 => ?_⟩
  · have h2 : u ≠ [] := by
      rintro rfl
      simp at h1
    obtain ⟨c, u2, rfl⟩ := List.exists_cons_of_ne_nil h2
    refine ts_and (t_cmp (e_sub ?_))
    walk_at "ws"
    refine L2.text hI ?_
    walk_at "ws"
    refine i_str (c := c) (by have := L2.get 0; simpa using this) (by have := L2.sz; lia) ?_
    refine e_str rfl ?_
    refine c_inc ⟨_, rfl, ite_b (fun h3 => ?_) fun h3 => ?_⟩
    · refine ts_and_nil ?_
      refine if_t ?_
      refine s_cons ?_
      walk_at "ws"
      refine L2.text hI ?_
      walk_at "ws"
      refine i_str (c := c) (by have := L2.get 0; simpa using this) (by have := L2.sz; lia) ?_
      have hw : wordAt (c :: u2) = [c] := if_pos h3
      rw [hw] at q
      exact ret_now q
    · refine if_f ?_
      refine s_nil (tail _ rfl (if_neg (by rw [show decide (c ∈ [40, 41]) = false from h3]; decide)))
  · refine if_f ?_
    have h2 : u = [] := by
      simp at h1
      exact List.eq_nil_of_length_eq_zero (by lia)
    subst h2
    exact s_nil (tail _ rfl rfl)
end
end
section
open PySem PySem.W PySem.Calls PyProof.Rows PySem.NumText
noncomputable abbrev PR (α : Type) := Except Nat (α × List Nat × Nat)
noncomputable def PR.bd {α β : Type} (x : PR α) (f : α → List Nat → Nat → PR β) : PR β :=
  match x with
  | .ok (v, r', l') => f v r' l'
  | .error e => .error e
noncomputable def Res {α : Type} (S : Store) (d : Addr) (t : List Nat) (Q : AV → Store → Prop) (X : Int → Prop) (enc : α → AV) : PR α → Prop
  | .ok (v, r', l') => r' <:+ t → Q (enc v) (upd S d (F t r' l'))
  | .error e => X (e : Int)
theorem Res.up {α : Type} {S : Store} {d : Addr} {t : List Nat} {Q : AV → Store → Prop} {X : Int → Prop} {enc : α → AV} {x : PR α} {o : AO} (q : Res S d t Q X enc x) : Res (upd S d o) d t Q X enc x := by
  cases x with
  | error e => exact q
  | ok p =>
    obtain ⟨v, r', l'⟩ := p
    intro h
    show Q _ (upd (upd S d o) d _)
    rw [upd_upd]; exact q h
theorem Res.bd {α β : Type} {S : Store} {d : Addr} {t : List Nat} {Q Q' : AV → Store → Prop} {X : Int → Prop} {enc : α → AV} {enc' : β → AV} {x : PR α} {f : α → List Nat → Nat → PR β} (q : Res S d t Q X enc' (x.bd f))
    (k : ∀ v r' l', r' <:+ t → Res (upd S d (F t r' l')) d t Q X enc' (f v r' l') → Q' (enc v) (upd S d (F t r' l'))) : Res S d t Q' X enc x := by
  cases x with
  | error e => exact q
  | ok p =>
    obtain ⟨v, r', l'⟩ := p
    intro h
    exact k v r' l' h q.up
section
variable {W : Wd} {S : Store} {a d : Addr} {t r : List Nat} {l : Nat}
theorem LS.setp (hI : W.Is) (h : LS S a d t r l) {r' : List Nat} {v : Int} (hv : v = ((t.length - r'.length : Nat) : Int)) {P : Store → Prop} (q : P (Mine.upd S d (F t r' l))) :
    KSat W a_place (.int v) P (.ref a) S := by
  refine ⟨a, C_Listing, d, _, _, rfl, h.inst, h.flds, sa_Listing_place hI, by show (3 : Nat) ≤ 900; lia, ?_, q⟩
  rw [setPlace, hv]; rfl
theorem LS.setl (hI : W.Is) (h : LS S a d t r l) {v : Int} (hv : v = ((l + 1 : Nat) : Int)) {P : Store → Prop} (q : P (Mine.upd S d (F t r (l + 1)))) :
    KSat W a_line (.int v) P (.ref a) S := by
  refine ⟨a, C_Listing, d, _, _, rfl, h.inst, h.flds, sa_Listing_line hI, by show (3 : Nat) ≤ 900; lia, ?_, q⟩
  rw [hv]
  have e : fset a_line (.int ((l + 1 : Nat) : Int)) [(a_text, AV.str t), (a_place, .int ((t.length - r.length : Nat) : Int)), (a_line, .int (l : Int))] = [(a_text, .str t), (a_place, .int ((t.length - r.length : Nat) : Int)), (a_line, .int ((l + 1 : Nat) : Int))] := by kernel_rfl
  rw [e]; rfl
end
theorem wordAt_le : ∀ u : List Nat, (wordAt u).length ≤ u.length
  | [] => Nat.le_refl _
  | c :: u => by
    show (if decide (c ∈ [40, 41]) = true then [c] else (c :: u).takeWhile notSep).length ≤ _
    split
    · simp
    · exact (List.takeWhile_prefix _).length_le
noncomputable def wordP (r : List Nat) (l : Nat) : PR (List Nat) := if (wordAt (skip r) == []) = true then .error l else .ok (wordAt (skip r), (skip r).drop (wordAt (skip r)).length, l)
noncomputable def needP (w r : List Nat) (l : Nat) : PR Unit := (wordP r l).bd fun v r' l' => if (v != w) = true then .error l' else .ok ((), r', l')
noncomputable def takesP (w r : List Nat) (l : Nat) : PR Bool := if (wordAt (skip r) != w) = true then .ok (false, skip r, l) else (wordP (skip r) l).bd fun _ r' l' => .ok (true, r', l')
noncomputable def figures (w : List Nat) : Bool := !(w == []) && !decide ((18 : Int) < w.length) && w.all (fun c => decide (c ∈ [48, 49, 50, 51, 52, 53, 54, 55, 56, 57])) && ((w == [48]) || (w.take 1 != [48]))
noncomputable def countP (r : List Nat) (l : Nat) : PR Nat := (wordP r l).bd fun v r' l' => if figures v = true then .ok (digitsVal v, r', l') else .error l'
noncomputable def letteredP (w r : List Nat) (l : Nat) : PR Nat := (wordP r l).bd fun v r' l' => if ((v.take 1 != w) || !figures (v.drop 1)) = true then .error l' else .ok (digitsVal (v.drop 1), r', l')
noncomputable def toldP (r : List Nat) (l : Nat) : PR (List Nat) := (countP r l).bd fun n r' l' => if ((r'.take 1 != [32]) || decide (r'.length < 1 + n)) = true then .error l' else .ok ((r'.drop 1).take n, r'.drop (1 + n), l')
noncomputable def endP (r : List Nat) (l : Nat) : PR Unit := if ((skip r).take 1 != [10]) = true then .error l else .ok ((), (skip r).drop 1, l + 1)
section
variable {W : Wd} {Γ : Fc} {n : Nat} {m : Loc} {S : Store} {X : Int → Prop} {Q : AV → Store → Prop} {a d : Addr} {t r : List Nat} {l : Nat}
theorem word_ok (hW : W.Ok) (hI : W.Is) (L : LS S a d t r l) (q : Res S d t Q X .str (wordP r l)) : WK W Γ 5 (.ref f_Listing_word) [.ref a] m S Q X := by
  refine n_enter (fn_Listing_word hW hI) nm_Listing_word rfl fun Γ' hF => ?_
  unfold wordP at q
  have L2 := L.upd (l' := l) ((skip_suf r).trans L.suf)
  refine s_cons ?_
  walk_at "ws"
  refine L.me (me_Listing_peek hI) ?_
  refine (peek_ok hW hI L ?_).toF
  replace q := q.up (o := F t (skip r) l)
  revert q L2
  generalize skip r = u
  generalize upd S d (F t u l) = S2
  intro L2 q
  walk_at "ws"
  refine c_eqs ⟨_, rfl, ite_b (fun h1 => ?_) fun h1 => ?_⟩
  · rw [if_pos h1] at q
    walk_at "ws"
    refine L2.me (me_Listing_refuse hI) ?_
    walk_at "ws"
    exact (refuse_ok hW hI L2 q).toF
  · rw [if_neg (by rw [h1]; decide)] at q
    walk_at "ws"
    refine L2.place hI ?_
    walk_at "ws"
    have hl := wordAt_le u
    have hl2 := L2.len
    have hs : u.drop (wordAt u).length <:+ t := (List.drop_suffix _ _).trans L2.suf
    refine f_len_str ?_ (by have := L2.sz; lia)
    refine b_addi ?_
    walk_at "ws"
    refine L2.setp hI (r' := u.drop (wordAt u).length) ?_ ?_
    · rw [List.length_drop]; lia
    walk_at "ws"
    exact ret_now (q hs)
theorem need_ok {w : List Nat} (hW : W.Ok) (hI : W.Is) (L : LS S a d t r l) (q : Res S d t Q X (fun _ => .none) (needP w r l)) : WK W Γ 6 (.ref f_Listing_need) [.ref a, .str w] m S Q X := by
  refine n_enter (fn_Listing_need hW hI) nm_Listing_need rfl fun Γ' hF => ?_
  refine s_cons ?_
  walk_at "ws"
  refine L.me (me_Listing_word hI) ?_
  refine (word_ok hW hI L (q.bd fun v r' l' hs q => ?_)).toF
  have L2 := L.upd (l' := l') hs
  walk_at "ws"
  refine c_nes ⟨_, rfl, ite_b (fun h1 => ?_) fun h1 => ?_⟩
  · rw [if_pos h1] at q
    walk_at "ws"
    refine L2.me (me_Listing_refuse hI) ?_
    walk_at "ws"
    exact WF.le (refuse_ok hW hI L2 q).toF (by lia)
  · rw [if_neg (by rw [h1]; decide)] at q
    walk_at "ws"
    replace q := q hs
    rw [upd_upd] at q
    exact nxt_now q
theorem takes_ok {w : List Nat} (hW : W.Ok) (hI : W.Is) (L : LS S a d t r l) (q : Res S d t Q X .bool (takesP w r l)) : WK W Γ 6 (.ref f_Listing_takes) [.ref a, .str w] m S Q X := by
  refine n_enter (fn_Listing_takes hW hI) nm_Listing_takes rfl fun Γ' hF => ?_
  have hs := (skip_suf r).trans L.suf
  have L2 := L.upd (l' := l) hs
  refine s_cons ?_
  walk_at "ws"
  refine L.me (me_Listing_peek hI) ?_
  refine WF.le (peek_ok hW hI L ?_).toF (by lia)
  unfold takesP at q
  walk_at "ws"
  refine c_nes ⟨_, rfl, ite_b (fun h1 => ?_) fun h1 => ?_⟩
  · rw [if_pos h1] at q
    walk_at "ws"
    exact ret_now (q hs)
  · rw [if_neg (by rw [h1]; decide)] at q
    walk_at "ws"
    refine L2.me (me_Listing_word hI) ?_
    refine (word_ok hW hI L2 (q.up.bd fun v r' l' hs q => ?_)).toF
    walk_at "ws"
    replace q := q hs
    rw [upd_upd] at q
    exact ret_now q
theorem fig_no {w : List Nat} {k : Nat} (h : w[k]? = some c) (h1 : decide (c ∈ [48, 49, 50, 51, 52, 53, 54, 55, 56, 57]) = false) : figures w = false := by
  have : w.all (fun c => decide (c ∈ [48, 49, 50, 51, 52, 53, 54, 55, 56, 57])) = false := by
    rw [List.all_eq_false]
    exact ⟨c, List.mem_of_getElem? h, by rw [h1]; decide⟩
  unfold figures
  rw [this, Bool.and_false, Bool.false_and]
theorem figures_ok {w : List Nat} (hW : W.Ok) (hI : W.Is) (hz : w.length ≤ 10000) (q : Q (.bool (figures w)) S) : WK W Γ 5 (.ref f_is_figures) [.str w] m S Q X := by
  refine n_enter (fn_is_figures hW hI) nm_is_figures rfl fun Γ' hF => ?_
  refine s_cons ?_
  walk_at "ws"
  refine c_eqs ⟨_, rfl, ite_b (fun h1 => ?_) fun h1 => ?_⟩
  · refine if_t ?_
    walk_at "ws"
    have e : figures w = false := by unfold figures; rw [h1]; rfl
    rw [e] at q
    exact ret_now q
  walk_at "ws"
  refine f_len_str ?_ (by lia)
  walk_at "ws"
  refine c_gti ⟨_, rfl, ite_b (fun h2 => ?_) fun h2 => ?_⟩
  · refine if_t ?_
    walk_at "ws"
    have e : figures w = false := by unfold figures; rw [h1, h2]; rfl
    rw [e] at q
    exact ret_now q
  walk_at "ws"
  walk_at "ws"
  refine ⟨_, _, _, src_str, fun k m1 S1 => S1 = S ∧ (∃ o, m1 = [some (AV.str w), o]) ∧ (w.take k).all (fun c => decide (c ∈ [48, 49, 50, 51, 52, 53, 54, 55, 56, 57])) = true, ⟨rfl, ⟨none, rfl⟩, rfl⟩, ?_, ?_⟩
  · rintro k av m1 S1 hk ⟨rfl, ⟨o, rfl⟩, h3⟩
    rw [List.getElem?_map, Option.map_eq_some_iff] at hk
    obtain ⟨c, hc, rfl⟩ := hk
    refine nw_name hF (i := 1) ?_ ?_
    · walk_at "ix"
    walk_at "ws"
    refine c_ninc ⟨_, rfl, ite_b (fun h4 => ?_) fun h4 => ?_⟩
    · walk_at "ws"
      rw [fig_no hc (by simpa using h4)] at q
      exact ret_now q
    · walk_at "ws"
      refine ⟨rfl, ⟨_, rfl⟩, ?_⟩
      rw [List.take_add_one, hc, List.all_append, h3]
      rw [Bool.not_eq_eq_eq_not, Bool.not_false] at h4
      show (true && (decide _ && true)) = true
      rw [h4]; rfl
  · rintro m1 S1 ⟨rfl, ⟨o, rfl⟩, h3⟩
    rw [List.length_map, List.take_length] at h3
    walk_at "ws"
    refine c_eqs ⟨_, rfl, ite_b (fun h4 => ?_) fun h4 => ?_⟩
    · have e : figures w = true := by unfold figures; rw [h1, h2, h3, h4]; rfl
      rw [e] at q
      rw [h4]
      exact ret_now q
    · walk_at "ws"
      match w, h1 with
      | c :: w', h1 =>
      refine i_str (i := 0) (c := c) rfl (by lia) ?_
      walk_at "ws"
      refine c_nes ?_
      have e : figures (c :: w') = ([c] != [48]) := by unfold figures; rw [h1, h2, h3, h4]; rfl
      rw [e] at q
      exact ret_now q
theorem fig_dig {w : List Nat} (h : figures w = true) : AllDigits w ∧ w ≠ [] ∧ w.length ≤ 640 := by
  unfold figures at h
  simp only [Bool.and_eq_true] at h
  obtain ⟨⟨⟨h1, h2⟩, h3⟩, _⟩ := h
  refine ⟨fun c hc => ?_, ?_, ?_⟩
  · have h5 : c ∈ [48, 49, 50, 51, 52, 53, 54, 55, 56, 57] := of_decide_eq_true (List.all_eq_true.mp h3 c hc)
    simp only [List.mem_cons, List.mem_nil_iff, or_false] at h5
    omega
  · rintro rfl; cases h1
  · have := of_decide_eq_false (Bool.not_eq_true' _ ▸ h2 : decide ((18 : Int) < w.length) = false)
    lia
theorem wordP_len {v r' : List Nat} {l' : Nat} (h : wordP r l = .ok (v, r', l')) : v.length ≤ r.length := by
  unfold wordP at h
  split at h
  · cases h
  · cases h
    have h1 := wordAt_le (skip r)
    have h2 := (skip_suf r).length_le
    lia
theorem Res.bdE {α β : Type} {S : Store} {d : Addr} {t : List Nat} {Q Q' : AV → Store → Prop} {X : Int → Prop} {enc : α → AV} {enc' : β → AV} {x : PR α} {f : α → List Nat → Nat → PR β} (q : Res S d t Q X enc' (x.bd f))
    (k : ∀ v r' l', x = .ok (v, r', l') → r' <:+ t → Res (Mine.upd S d (F t r' l')) d t Q X enc' (f v r' l') → Q' (enc v) (Mine.upd S d (F t r' l'))) : Res S d t Q' X enc x := by
  cases x with
  | error e => exact q
  | ok p =>
    obtain ⟨v, r', l'⟩ := p
    intro h
    exact k v r' l' rfl h q.up
noncomputable def encN (k : Nat) : AV := .int (k : Int)
theorem count_ok (hW : W.Ok) (hI : W.Is) (L : LS S a d t r l) (q : Res S d t Q X encN (countP r l)) : WK W Γ 6 (.ref f_Listing_count) [.ref a] m S Q X := by
  refine n_enter (fn_Listing_count hW hI) nm_Listing_count rfl fun Γ' hF => ?_
  refine s_cons ?_
  walk_at "ws"
  refine L.me (me_Listing_word hI) ?_
  refine (word_ok hW hI L (q.bdE fun v r' l' hv hs q => ?_)).toF
  have L2 := L.upd (l' := l') hs
  have hz := wordP_len hv
  have hz2 := L.len
  have hz3 := L.sz
  walk_at "ws"
  refine (figures_ok hW hI (by lia) ?_).toF
  refine ⟨_, rfl, ite_b (fun h1 => ?_) fun h1 => ?_⟩
  · rw [if_neg (by rw [Bool.not_eq_true', ] at h1; rw [h1]; decide)] at q
    walk_at "ws"
    refine L2.me (me_Listing_refuse hI) ?_
    walk_at "ws"
    exact WF.le (refuse_ok hW hI L2 q).toF (by lia)
  · rw [Bool.not_eq_false'] at h1
    rw [if_pos h1] at q
    obtain ⟨g1, g2, g3⟩ := fig_dig h1
    walk_at "ws"
    replace q := q hs
    rw [upd_upd] at q
    exact f_int g1 g2 g3 (ret_now q)
theorem lettered_ok {w : List Nat} (hW : W.Ok) (hI : W.Is) (L : LS S a d t r l) (q : Res S d t Q X encN (letteredP w r l)) : WK W Γ 6 (.ref f_Listing_lettered) [.ref a, .str w] m S Q X := by
  refine n_enter (fn_Listing_lettered hW hI) nm_Listing_lettered rfl fun Γ' hF => ?_
  refine s_cons ?_
  walk_at "ws"
  refine L.me (me_Listing_word hI) ?_
  refine (word_ok hW hI L (q.bdE fun v r' l' hv hs q => ?_)).toF
  have L2 := L.upd (l' := l') hs
  have hz := wordP_len hv
  have hz2 := L.len
  have hz3 := L.sz
  walk_at "ws"
  refine ⟨v, _, _, rfl, rfl, Bnd_nat 1, by lia, ?_⟩
  walk_at "ws"
  refine c_nes ⟨_, rfl, ite_b (fun h1 => ?_) fun h1 => ?_⟩
  · have h1' : (v.take 1 != w) = true := h1
    rw [if_pos (by rw [h1']; rfl)] at q
    walk_at "ws"
    refine L2.me (me_Listing_refuse hI) ?_
    walk_at "ws"
    exact WF.le (refuse_ok hW hI L2 q).toF (by lia)
  have h1' : (v.take 1 != w) = false := h1
  rw [h1', Bool.false_or] at q
  walk_at "ws"
  refine ⟨v, _, _, rfl, Bnd_nat 1, rfl, by lia, ?_⟩
  walk_at "ws"
  have hd : (sl v (some 1) none) = v.drop 1 := rfl
  have hd2 : (v.drop 1).length = v.length - 1 := List.length_drop
  rw [hd]
  refine (figures_ok hW hI (by lia) ?_).toF
  refine ⟨_, rfl, ite_b (fun h2 => ?_) fun h2 => ?_⟩
  · rw [if_pos h2] at q
    walk_at "ws"
    refine L2.me (me_Listing_refuse hI) ?_
    walk_at "ws"
    exact WF.le (refuse_ok hW hI L2 q).toF (by lia)
  · rw [if_neg (by rw [h2]; decide)] at q
    walk_at "ws"
    refine ⟨v, _, _, rfl, Bnd_nat 1, rfl, by lia, ?_⟩
    rw [Bool.not_eq_false'] at h2
    obtain ⟨g1, g2, g3⟩ := fig_dig h2
    walk_at "ws"
    replace q := q hs
    rw [upd_upd] at q
    exact f_int g1 g2 g3 (ret_now q)
end
end
section
open PySem PySem.W PySem.Calls PyProof.Rows PySem.NumText
section
variable {W : Wd} {Γ : Fc} {n : Nat} {m : Loc} {S : Store} {X : Int → Prop} {Q : AV → Store → Prop} {a d : Addr} {t r : List Nat} {l : Nat}
theorem told_ok (hW : W.Ok) (hI : W.Is) (L : LS S a d t r l) (q : Res S d t Q X .str (toldP r l)) : WK W Γ 7 (.ref f_Listing_told_text) [.ref a] m S Q X := by
  refine n_enter (fn_Listing_told_text hW hI) nm_Listing_told_text rfl fun Γ' hF => ?_
  refine s_cons ?_
  walk_at "ws"
  refine L.me (me_Listing_count hI) ?_
  refine (count_ok hW hI L (q.bd fun v r' l' hs q => ?_)).toF
  have L2 := L.upd (l' := l') hs
  have hl2 := L2.len
  have hz3 := L.sz
  have hd1 : (r'.drop 1).length = r'.length - 1 := List.length_drop
  walk_at "ws"
  refine L2.place hI ?_
  walk_at "ws"
  refine b_addi ?_
  walk_at "ws"
  refine L2.text hI ?_
  walk_at "ws"
  refine L2.place hI ?_
  walk_at "ws"
  refine ⟨t, _, _, rfl, Bnd_nat _, Bnd_nat (t.length - r'.length + 1), by omega, ?_⟩
  rw [L2.slice]
  walk_at "ws"
  have no : ((r'.take 1 != [32]) || decide (r'.length < 1 + v)) = true → X l' := fun h => by
    rw [if_pos h] at q; exact q
  refine c_nes ⟨_, rfl, ite_b (fun h1 => ?_) fun h1 => ?_⟩
  · walk_at "ws"
    refine L2.me (me_Listing_refuse hI) ?_
    walk_at "ws"
    exact WF.le (refuse_ok hW hI L2 (no (by rw [h1]; rfl))).toF (by omega)
  have h1' : (r'.take 1 != [32]) = false := h1
  rw [h1', Bool.false_or] at no q
  walk_at "ws"
  refine b_addi ?_
  walk_at "ws"
  refine L2.text hI ?_
  walk_at "ws"
  refine f_len_str ?_ (by omega)
  refine c_gti ⟨_, rfl, ite_b (fun h2 => ?_) fun h2 => ?_⟩
  · walk_at "ws"
    refine L2.me (me_Listing_refuse hI) ?_
    walk_at "ws"
    refine WF.le (refuse_ok hW hI L2 (no (decide_eq_true ?_))).toF (by omega)
    have := of_decide_eq_true h2
    have h3 : ((t.length : Int) < ((t.length - r'.length : Nat) : Int) + 1 + (v : Int)) := this
    omega
  have h3 : ¬ ((t.length : Int) < ((t.length - r'.length : Nat) : Int) + 1 + (v : Int)) := of_decide_eq_false h2
  rw [if_neg (by rw [decide_eq_true_eq]; omega)] at q
  walk_at "ws"
  refine b_addi ?_
  walk_at "ws"
  have hs2 : r'.drop (1 + v) <:+ t := (List.drop_suffix _ _).trans hs
  refine L2.setp hI (r' := r'.drop (1 + v)) ?_ ?_
  · show ((t.length - r'.length : Nat) : Int) + 1 + (v : Int) = _
    rw [List.length_drop]; omega
  have L3 := L2.upd (l' := l') hs2
  walk_at "ws"
  refine L3.text hI ?_
  walk_at "ws"
  refine L3.place hI ?_
  refine ⟨t, _, _, rfl, Bnd_nat (t.length - r'.length + 1), Bnd_nat _, by omega, ?_⟩
  have L4 := L2.upd (l' := l') ((List.drop_suffix 1 r').trans hs)
  have e := L4.slice v
  have e1 : t.length - (r'.drop 1).length = t.length - r'.length + 1 := by
    have : 1 + v ≤ r'.length := by omega
    omega
  have e2 : t.length - (r'.drop (1 + v)).length = t.length - r'.length + 1 + v := by rw [List.length_drop]; omega
  rw [e1] at e
  rw [e2, e]
  exact ret_now (q hs2)
theorem end_ok (hW : W.Ok) (hI : W.Is) (L : LS S a d t r l) (q : Res S d t Q X (fun _ => .none) (endP r l)) : WK W Γ 5 (.ref f_Listing_end_line) [.ref a] m S Q X := by
  refine n_enter (fn_Listing_end_line hW hI) nm_Listing_end_line rfl fun Γ' hF => ?_
  have hs := (skip_suf r).trans L.suf
  have L2 := L.upd (l' := l) hs
  unfold endP at q
  refine s_cons ?_
  walk_at "ws"
  refine L.me (me_Listing_skip_blanks hI) ?_
  refine WF.le (skip_blanks_ok hW hI L ?_).toF (by omega)
  replace q := q.up (o := F t (skip r) l)
  revert q L2
  generalize upd S d (F t (skip r) l) = S2
  revert hs
  generalize skip r = u
  intro hs L2 q
  have hl2 := L2.len
  have hz3 := L.sz
  walk_at "ws"
  refine L2.text hI ?_
  walk_at "ws"
  refine L2.place hI ?_
  walk_at "ws"
  refine L2.place hI ?_
  walk_at "ws"
  refine b_addi ?_
  refine ⟨t, _, _, rfl, Bnd_nat _, Bnd_nat (t.length - u.length + 1), by omega, ?_⟩
  rw [L2.slice]
  walk_at "ws"
  refine c_nes ⟨_, rfl, ite_b (fun h1 => ?_) fun h1 => ?_⟩
  · rw [if_pos h1] at q
    walk_at "ws"
    refine L2.me (me_Listing_refuse hI) ?_
    walk_at "ws"
    exact (refuse_ok hW hI L2 q).toF
  have h1' : (u.take 1 != [10]) = false := h1
  rw [if_neg (by rw [h1']; decide)] at q
  have hu : 1 ≤ u.length := by
    cases u with
    | nil => cases h1'
    | cons _ _ => simp
  have hs2 : u.drop 1 <:+ t := (List.drop_suffix 1 u).trans hs
  walk_at "ws"
  refine L2.place hI ?_
  walk_at "ws"
  refine b_addi ?_
  walk_at "ws"
  refine L2.setp hI (r' := u.drop 1) ?_ ?_
  · rw [List.length_drop]; omega
  have L3 := L2.upd (l' := l) hs2
  walk_at "ws"
  refine L3.line hI ?_
  walk_at "ws"
  refine b_addi ?_
  walk_at "ws"
  refine L3.setl hI ?_ ?_
  · rfl
  walk_at "ws"
  rw [upd_upd]
  exact nxt_now (q hs2)
end
end
section
open PySem PySem.W PySem.Calls PyProof.Rows PySem.NumText
section
variable {α β : Type} {S : Store} {a b d : Addr} {t r r' : List Nat} {l l' : Nat} {Q Q' : AV → Store → Prop} {X : Int → Prop} {enc : α → AV} {enc' : β → AV} {x0 x1 y y' : AO}
theorem upd_swap (h : b ≠ d) : upd (upd (upd S d x0) b y) d x1 = upd (upd S d x1) b y := by
  rw [upd_comm (S := upd S d x0) h, upd_upd]
theorem Res.bdW {x : PR α} {f : α → List Nat → Nat → PR β} (h : b ≠ d) (q : Res S d t Q X enc' (x.bd f))
    (k : ∀ v r' l', x = .ok (v, r', l') → r' <:+ t → Res S d t Q X enc' (f v r' l') → Q' (enc v) (Mine.upd (Mine.upd S d (F t r' l')) b y)) : Res (Mine.upd (Mine.upd S d x0) b y) d t Q' X enc x := by
  cases x with
  | error e => exact q
  | ok p =>
    obtain ⟨v, r', l'⟩ := p
    intro hs
    rw [upd_swap h]
    exact k v r' l' rfl hs q
theorem LS.at (L : LS S a d t r l) (hb : S b = none) (hs : r' <:+ t) : LS (Mine.upd (Mine.upd S d (F t r' l')) b y) a d t r' l' := by
  have h1 : a ≠ b := fun e => by rw [← e, L.inst] at hb; cases hb
  have h2 : d ≠ b := fun e => by rw [← e, L.flds] at hb; cases hb
  have L2 := L.upd (l' := l') hs
  exact ⟨by rw [upd_ne h1]; exact L2.inst, by rw [upd_ne h2]; exact L2.flds, hs, L.sz⟩
theorem LS.neb (L : LS S a d t r l) (hb : S b = none) : b ≠ d := fun e => by rw [e, L.flds] at hb; cases hb
theorem ret_drop (L : LS S a d t r l) (hb : S b = none) {av : AV} {m : Loc} (q : Q av (upd S d x0)) : RetQ Q (.ret av) m (upd (upd S d x0) b y) :=
  ⟨upd S d x0, by
    intro p o e
    have h : p ≠ b := by
      rintro rfl
      rw [upd_ne (L.neb hb), hb] at e; cases e
    rw [upd_ne h]; exact e, q⟩
end
noncomputable def regsL : Nat → List Nat → List Nat → Nat → PR (List Nat)
  | 0, _, _, l => .error l
  | k + 1, acc, r, l => (takesP [41] r l).bd fun b r l => if b = true then .ok (acc, r, l) else (letteredP [114] r l).bd fun v r l => regsL k (acc ++ [v]) r l
noncomputable def regsP (r : List Nat) (l : Nat) : PR (List Nat) := (needP [40] r l).bd fun _ r l => regsL (r.length + 1) [] r l
theorem wordP_lt {v r r' : List Nat} {l l' : Nat} (h : wordP r l = .ok (v, r', l')) : r'.length < r.length := by
  unfold wordP at h
  split at h
  · cases h
  · rename_i h0
    cases h
    have h1 := wordAt_le (skip r)
    have h2 := (skip_suf r).length_le
    have h3 : wordAt (skip r) ≠ [] := fun e => h0 (by rw [e]; rfl)
    have h4 : 0 < (wordAt (skip r)).length := List.length_pos_iff.mpr h3
    rw [List.length_drop]
    lia
theorem lettered_lt {v : Nat} {w r r' : List Nat} {l l' : Nat} (h : letteredP w r l = .ok (v, r', l')) : r'.length < r.length := by
  unfold letteredP at h
  cases hw : wordP r l with
  | error e => rw [hw] at h; cases h
  | ok p =>
    obtain ⟨v1, r1, l1⟩ := p
    rw [hw] at h
    have h1 := wordP_lt hw
    have h2 : (if ((v1.take 1 != w) || !figures (v1.drop 1)) = true then (.error l1 : PR Nat) else .ok (digitsVal (v1.drop 1), r1, l1)) = .ok (v, r', l') := h
    split at h2
    · cases h2
    · cases h2; exact h1
theorem takes_le {v : Bool} {w r r' : List Nat} {l l' : Nat} (h : takesP w r l = .ok (v, r', l')) : r'.length ≤ r.length := by
  have hs := (skip_suf r).length_le
  unfold takesP at h
  split at h
  · cases h; exact hs
  · cases hw : wordP (skip r) l with
    | error e => rw [hw] at h; cases h
    | ok p =>
      obtain ⟨v1, r1, l1⟩ := p
      rw [hw] at h
      cases h
      have h1 := wordP_lt hw
      lia
section
variable {W : Wd} {Γ : Fc} {n : Nat} {m : Loc} {S : Store} {X : Int → Prop} {Q : AV → Store → Prop} {a d : Addr} {t r : List Nat} {l : Nat}
noncomputable def encR (v : List Nat) : AV := .tup (v.map encN)
theorem regs_ok (hW : W.Ok) (hI : W.Is) (L : LS S a d t r l) (q : Res S d t Q X encR (regsP r l)) : WK W Γ 7 (.ref f_read_registers) [.ref a] m S Q X := by
  refine n_enter (fn_read_registers hW hI) nm_read_registers rfl fun Γ' hF => ?_
  refine s_cons ?_
  walk_at "ws"
  refine L.me (me_Listing_need hI) ?_
  walk_at "ws"
  refine (need_ok hW hI L (q.bd fun v r1 l1 hs q => ?_)).toF
  have L1 := L.upd (l' := l1) hs
  walk_at "ws"
  refine e_list (es_nil ⟨by decide, fun b hb => ?_⟩)
  have hz := L.sz
  have hz1 := L1.len
  have hbd : b ≠ d := L1.neb hb
  revert L1 hb q hbd
  generalize upd S d (F t r1 l1) = S1
  intro q L1 hb hbd
  walk_at "ws"
  refine n_while hF (fun k m2 S2 => m2 = [some (.ref a), some (.ref b)] ∧ ∃ r2 l2 acc f, r2 <:+ t ∧ S2 = upd (upd S1 d (F t r2 l2)) b (.lst (acc.map encN)) ∧ Res S1 d t Q X encR (regsL f acc r2 l2) ∧ r2.length < f ∧ acc.length + r2.length ≤ t.length ∧ k = r2.length) r1.length ?_ ?_
  · exact ⟨rfl, r1, l1, [], r1.length + 1, hs, by rw [upd_self L1.flds]; rfl, q, by lia, by simpa using hz1, rfl⟩
  rintro k m2 S2 ⟨rfl, r2, l2, acc, f, hs2, rfl, q, hf, hlen, rfl⟩
  obtain ⟨f, rfl⟩ : ∃ g, f = g + 1 := ⟨f - 1, by lia⟩
  have L2 := L1.at (b := b) (y := .lst (acc.map encN)) (l' := l2) hb hs2
  walk_at "ws"
  refine L2.me (me_Listing_takes hI) ?_
  walk_at "ws"
  refine (takes_ok hW hI L2 (Res.bdW hbd q fun c r3 l3 hc hs3 q => ?_)).toF
  have hle := takes_le hc
  have L3 := L1.at (b := b) (y := .lst (acc.map encN)) (l' := l3) hb hs3
  cases c with
  | true =>
    refine ⟨_, rfl, ?_⟩
    walk_at "ws"
    refine f_tuple_lst (as := acc.map encN) (upd_same _ _ _) ?_ (by rw [List.length_map]; lia)
    exact ret_drop L1 hb (q hs3)
  | false =>
    refine ⟨_, rfl, ?_⟩
    walk_at "ws"
    refine ⟨b, _, rfl, upd_same _ _ _, ?_⟩
    walk_at "ws"
    refine L3.me (me_Listing_lettered hI) ?_
    walk_at "ws"
    refine (lettered_ok hW hI L3 (Res.bdW hbd q fun v r4 l4 hv hs4 q => ?_)).toF
    have hlt := lettered_lt hv
    refine ⟨_, upd_same _ _ _, by rw [List.length_map]; lia, ?_⟩
    walk_at "ws"
    exact ⟨r4.length, by lia, rfl, r4, l4, acc ++ [v], f, hs4, by rw [upd_upd, List.map_append]; rfl, q, by lia, by rw [List.length_append]; simp only [List.length_cons, List.length_nil]; lia, rfl⟩
theorem bd_ok {α β : Type} {x : PR α} {f : α → List Nat → Nat → PR β} {p : β × List Nat × Nat} (h : x.bd f = .ok p) : ∃ v r' l', x = .ok (v, r', l') ∧ f v r' l' = .ok p := by
  cases x with
  | error e => cases h
  | ok q => exact ⟨q.1, q.2.1, q.2.2, rfl, h⟩
theorem regsL_le {v : List Nat} {r' : List Nat} {l' : Nat} {k : Nat} {acc r : List Nat} {l : Nat} (h : regsL k acc r l = .ok (v, r', l')) : r'.length ≤ r.length := by
  induction k generalizing acc r l with
  | zero => cases h
  | succ k ih =>
    obtain ⟨b, r1, l1, h1, h2⟩ := bd_ok h
    have := takes_le h1
    cases b with
    | true => cases h2; exact this
    | false =>
      obtain ⟨v1, r2, l2, h3, h4⟩ := bd_ok h2
      have := lettered_lt h3
      have := ih h4
      lia
theorem regs_le {v : List Nat} {r' : List Nat} {l' : Nat} (h : regsP r l = .ok (v, r', l')) : r'.length ≤ r.length := by
  obtain ⟨u, r1, l1, h1, h2⟩ := bd_ok h
  obtain ⟨w, r2, l2, h3, h4⟩ := bd_ok h1
  have h5 := wordP_lt h3
  have h6 := regsL_le h2
  have h7 : (if (w != [40]) = true then (.error l2 : PR Unit) else .ok ((), r2, l2)) = .ok (u, r1, l1) := h4
  split at h7
  · cases h7
  · cases h7; lia
noncomputable abbrev Row := Nat × Nat × List Nat
noncomputable def encRow (v : Row) : AV := .tup [encN v.1, encN v.2.1, encR v.2.2]
noncomputable def encRows (v : List Row) : AV := .tup (v.map encRow)
noncomputable def rowsL : Nat → List Row → List Nat → Nat → PR (List Row)
  | 0, _, _, l => .error l
  | k + 1, acc, r, l => if (wordAt (skip r) != []) = true then (letteredP [114] (skip r) l).bd fun v1 r l => (letteredP [112] r l).bd fun v2 r l => (regsP r l).bd fun v3 r l => rowsL k (acc ++ [(v1, v2, v3)]) r l else .ok (acc, skip r, l)
noncomputable def rowsP (r : List Nat) (l : Nat) : PR (List Row) := rowsL (r.length + 1) [] r l
theorem rows_ok (hW : W.Ok) (hI : W.Is) (L1 : LS S a d t r l) (q : Res S d t Q X encRows (rowsP r l)) : WK W Γ 8 (.ref f_read_rows) [.ref a] m S Q X := by
  refine n_enter (fn_read_rows hW hI) nm_read_rows rfl fun Γ' hF => ?_
  refine s_cons ?_
  walk_at "ws"
  refine e_list (es_nil ⟨by decide, fun b hb => ?_⟩)
  have hz := L1.sz
  have hz1 := L1.len
  have hbd : b ≠ d := L1.neb hb
  walk_at "ws"
  refine n_while hF (fun k m2 S2 => (∃ o1 o2, m2 = [some (.ref a), some (.ref b), o1, o2]) ∧ ∃ r2 l2 acc f, r2 <:+ t ∧ S2 = upd (upd S d (F t r2 l2)) b (.lst (acc.map encRow)) ∧ Res S d t Q X encRows (rowsL f acc r2 l2) ∧ r2.length < f ∧ acc.length + r2.length ≤ t.length ∧ k = r2.length) r.length ?_ ?_
  · exact ⟨⟨_, _, rfl⟩, r, l, [], r.length + 1, L1.suf, by rw [upd_self L1.flds]; rfl, q, by lia, by simpa using hz1, rfl⟩
  rintro k m2 S2 ⟨⟨o1, o2, rfl⟩, r2, l2, acc, f, hs2, rfl, q, hf, hlen, rfl⟩
  obtain ⟨f, rfl⟩ : ∃ g, f = g + 1 := ⟨f - 1, by lia⟩
  have L2 := L1.at (b := b) (y := .lst (acc.map encRow)) (l' := l2) hb hs2
  have hs3 := (skip_suf r2).trans hs2
  have hk := (skip_suf r2).length_le
  have L3 := L1.at (b := b) (y := .lst (acc.map encRow)) (l' := l2) hb hs3
  walk_at "ws"
  refine L2.me (me_Listing_peek hI) ?_
  refine WF.le (peek_ok hW hI L2 ?_).toF (by lia)
  rw [upd_swap hbd]
  walk_at "ws"
  unfold rowsL at q
  refine c_nes ⟨_, rfl, ite_b (fun h1 => ?_) fun h1 => ?_⟩
  · rw [if_pos h1] at q
    walk_at "ws"
    refine L3.me (me_Listing_lettered hI) ?_
    walk_at "ws"
    refine WF.le (lettered_ok hW hI L3 (Res.bdW hbd q fun v1 r4 l4 hv hs4 q => ?_)).toF (by lia)
    have h4 := lettered_lt hv
    have L4 := L1.at (b := b) (y := .lst (acc.map encRow)) (l' := l4) hb hs4
    walk_at "ws"
    refine L4.me (me_Listing_lettered hI) ?_
    walk_at "ws"
    refine WF.le (lettered_ok hW hI L4 (Res.bdW hbd q fun v2 r5 l5 hv hs5 q => ?_)).toF (by lia)
    have h5 := lettered_lt hv
    have L5 := L1.at (b := b) (y := .lst (acc.map encRow)) (l' := l5) hb hs5
    walk_at "ws"
    refine ⟨b, _, rfl, upd_same _ _ _, ?_⟩
    refine e_tuple ?_
    walk_at "ws"
    refine (regs_ok hW hI L5 (Res.bdW hbd q fun v3 r6 l6 hv hs6 q => ?_)).toF
    have h6 := regs_le hv
    walk_at "ws"
    refine ⟨by show (3 : Nat) ≤ 10000; decide, _, upd_same _ _ _, by rw [List.length_map]; lia, ?_⟩
    walk_at "ws"
    exact ⟨r6.length, by lia, ⟨_, _, rfl⟩, r6, l6, acc ++ [(v1, v2, v3)], f, hs6, by rw [upd_upd, List.map_append]; rfl, q, by lia, by rw [List.length_append]; simp only [List.length_cons, List.length_nil]; lia, rfl⟩
  · rw [if_neg (by rw [h1]; decide)] at q
    walk_at "ws"
    refine f_tuple_lst (as := acc.map encRow) (upd_same _ _ _) ?_ (by rw [List.length_map]; lia)
    exact ret_drop L1 hb (q hs3)
end
end
section
open PySem PySem.W PySem.Calls PyProof.Rows PySem.NumText
noncomputable def operandsD : List (List Nat × List (List Nat)) := [([99, 111, 110, 115, 116], [[116, 97, 114, 103, 101, 116], [99, 111, 110, 115, 116, 97, 110, 116]]), ([109, 111, 118, 101], [[116, 97, 114, 103, 101, 116], [115, 111, 117, 114, 99, 101]]), ([103, 108, 111, 98, 97, 108], [[116, 97, 114, 103, 101, 116], [103, 108, 111, 98, 97, 108]]), ([115, 101, 116, 103, 108, 111, 98, 97, 108], [[103, 108, 111, 98, 97, 108], [115, 111, 117, 114, 99, 101]]), ([100, 101, 102, 105, 110, 101], [[103, 108, 111, 98, 97, 108], [115, 111, 117, 114, 99, 101]]), ([102, 114, 101, 101], [[116, 97, 114, 103, 101, 116], [102, 114, 101, 101]]), ([99, 108, 111, 115, 117, 114, 101], [[116, 97, 114, 103, 101, 116], [112, 114, 111, 99, 101, 100, 117, 114, 101], [115, 111, 117, 114, 99, 101, 115]]), ([102, 105, 120], [[114, 111, 119, 115]]), ([112, 114, 105, 109], [[116, 97, 114, 103, 101, 116], [112, 114, 105, 109, 105, 116, 105, 118, 101], [115, 111, 117, 114, 99, 101, 115]]), ([106, 117, 109, 112], [[108, 97, 98, 101, 108]]), ([98, 114, 97, 110, 99, 104, 102, 97, 108, 115, 101], [[115, 111, 117, 114, 99, 101], [108, 97, 98, 101, 108]]), ([99, 97, 108, 108], [[115, 111, 117, 114, 99, 101], [115, 111, 117, 114, 99, 101], [115, 111, 117, 114, 99, 101, 115]]), ([103, 105, 118, 101], [[115, 111, 117, 114, 99, 101], [115, 111, 117, 114, 99, 101, 115]])]
noncomputable def lettersD : List (List Nat × List Nat) := [([116, 97, 114, 103, 101, 116], [114]), ([115, 111, 117, 114, 99, 101], [114]), ([99, 111, 110, 115, 116, 97, 110, 116], [99]), ([103, 108, 111, 98, 97, 108], [103]), ([102, 114, 101, 101], [110]), ([112, 114, 111, 99, 101, 100, 117, 114, 101], [112]), ([108, 97, 98, 101, 108], [76])]
noncomputable def encS (l : List (List Nat)) : AV := .tup (l.map .str)
theorem vr_tup {W : Wd} (hW : W.Ok) {a : Addr} (l : List (Str × Tok)) (h : W.K.lookup a = some ⟨.type "tuple", none, .seq ⟨l.map fun p => .str p.1 p.2⟩ 0, ⟨[]⟩⟩) : VR W.b [] (.ref a) (.tup (l.map fun p => .str p.1.cps.toList)) := by
  refine .tup a (l.map fun p => .str p.1 p.2) _ (.inl (tupK hW.inK h)) ?_
  clear h
  induction l with
  | nil => exact .nil
  | cons p l ih => exact .cons _ _ _ _ (.str _ _ _ rfl) ih
theorem kd_operands {W : Wd} (hW : W.Ok) (hI : W.Is) : KDict W A_OPERANDS (operandsD.map fun p => (p.1, encS p.2)) := by
  refine ⟨_, 13, by rw [hI.K]; exact (by kernel_rfl : (heapK W.w.params).lookup A_OPERANDS = some (o_24 W.w.params)), ?_⟩
  refine .cons _ _ _ _ _ _ _ rfl (vr_tup hW [(a_target, (nat_lit 223)), (a_constant, (nat_lit 224))] (by rw [hI.K]; kernel_rfl)) ?_
  refine .cons _ _ _ _ _ _ _ rfl (vr_tup hW [(a_target, (nat_lit 226)), (a_source, (nat_lit 227))] (by rw [hI.K]; kernel_rfl)) ?_
  refine .cons _ _ _ _ _ _ _ rfl (vr_tup hW [(a_target, (nat_lit 229)), (a_global, (nat_lit 230))] (by rw [hI.K]; kernel_rfl)) ?_
  refine .cons _ _ _ _ _ _ _ rfl (vr_tup hW [(a_global, (nat_lit 232)), (a_source, (nat_lit 233))] (by rw [hI.K]; kernel_rfl)) ?_
  refine .cons _ _ _ _ _ _ _ rfl (vr_tup hW [(a_global, (nat_lit 235)), (a_source, (nat_lit 236))] (by rw [hI.K]; kernel_rfl)) ?_
  refine .cons _ _ _ _ _ _ _ rfl (vr_tup hW [(a_target, (nat_lit 238)), (a_free, (nat_lit 239))] (by rw [hI.K]; kernel_rfl)) ?_
  refine .cons _ _ _ _ _ _ _ rfl (vr_tup hW [(a_target, (nat_lit 241)), (a_procedure, (nat_lit 242)), (a_sources, (nat_lit 243))] (by rw [hI.K]; kernel_rfl)) ?_
  refine .cons _ _ _ _ _ _ _ rfl (vr_tup hW [(a_rows, (nat_lit 245))] (by rw [hI.K]; kernel_rfl)) ?_
  refine .cons _ _ _ _ _ _ _ rfl (vr_tup hW [(a_target, (nat_lit 247)), (a_primitive, (nat_lit 248)), (a_sources, (nat_lit 249))] (by rw [hI.K]; kernel_rfl)) ?_
  refine .cons _ _ _ _ _ _ _ rfl (vr_tup hW [(a_label, (nat_lit 251))] (by rw [hI.K]; kernel_rfl)) ?_
  refine .cons _ _ _ _ _ _ _ rfl (vr_tup hW [(a_source, (nat_lit 253)), (a_label, (nat_lit 254))] (by rw [hI.K]; kernel_rfl)) ?_
  refine .cons _ _ _ _ _ _ _ rfl (vr_tup hW [(a_source, (nat_lit 256)), (a_source, (nat_lit 257)), (a_sources, (nat_lit 258))] (by rw [hI.K]; kernel_rfl)) ?_
  refine .cons _ _ _ _ _ _ _ rfl (vr_tup hW [(a_source, (nat_lit 260)), (a_sources, (nat_lit 261))] (by rw [hI.K]; kernel_rfl)) ?_
  exact .nil
theorem kd_letters {W : Wd} (hI : W.Is) : KDict W A_LETTERS (lettersD.map fun p => (p.1, .str p.2)) := by
  refine ⟨_, 7, by rw [hI.K]; exact (by kernel_rfl : (heapK W.w.params).lookup A_LETTERS = some (o_69 W.w.params)), ?_⟩
  refine .cons _ _ _ _ _ _ _ rfl (.str _ _ _ rfl) ?_
  refine .cons _ _ _ _ _ _ _ rfl (.str _ _ _ rfl) ?_
  refine .cons _ _ _ _ _ _ _ rfl (.str _ _ _ rfl) ?_
  refine .cons _ _ _ _ _ _ _ rfl (.str _ _ _ rfl) ?_
  refine .cons _ _ _ _ _ _ _ rfl (.str _ _ _ rfl) ?_
  refine .cons _ _ _ _ _ _ _ rfl (.str _ _ _ rfl) ?_
  refine .cons _ _ _ _ _ _ _ rfl (.str _ _ _ rfl) ?_
  exact .nil
theorem Res.mono {α : Type} {S : Store} {d : Addr} {t : List Nat} {Q Q' : AV → Store → Prop} {X : Int → Prop} {enc : α → AV} {x : PR α} (q : Res S d t Q X enc x) (k : ∀ a S', Q a S' → Q' a S') : Res S d t Q' X enc x := by
  cases x with
  | error e => exact q
  | ok p => exact fun h => k _ _ (q h)
theorem Res.fin {α β : Type} {S : Store} {d : Addr} {t : List Nat} {Q : AV → Store → Prop} {X : Int → Prop} {enc' : β → AV} {x : PR α} {g : α → β} (q : Res S d t Q X enc' (x.bd fun v r l => .ok (g v, r, l))) : Res S d t Q X (fun v => enc' (g v)) x := by
  cases x with
  | error e => exact q
  | ok p => exact q
noncomputable abbrev opsD (ops : List (List Nat × Nat)) : AO := txD (ops.map fun p => (p.1, encN p.2))
theorem ops_lookup (ops : List (List Nat × Nat)) (w : List Nat) : (ops.map fun p => (p.1, encN p.2)).lookup w = (ops.lookup w).map encN := by
  induction ops with
  | nil => rfl
  | cons p ops ih => rw [List.map_cons, List.lookup_cons, List.lookup_cons, ih]; cases w == p.1 <;> rfl
theorem letters_lookup (l : List (List Nat × List Nat)) (w : List Nat) : (l.map fun p => (p.1, AV.str p.2)).lookup w = (l.lookup w).map .str := by
  induction l with
  | nil => rfl
  | cons p l ih => rw [List.map_cons, List.lookup_cons, List.lookup_cons, ih]; cases w == p.1 <;> rfl
theorem operands_lookup (l : List (List Nat × List (List Nat))) (w : List Nat) : (l.map fun p => (p.1, encS p.2)).lookup w = (l.lookup w).map encS := by
  induction l with
  | nil => rfl
  | cons p l ih => rw [List.map_cons, List.lookup_cons, List.lookup_cons, ih]; cases w == p.1 <;> rfl
noncomputable def operP (ops : List (List Nat × Nat)) (sort r : List Nat) (l : Nat) : PR AV :=
  if (sort == [115, 111, 117, 114, 99, 101, 115]) = true then (regsP r l).bd fun v r l => .ok (encR v, r, l)
  else if (sort == [114, 111, 119, 115]) = true then (rowsP r l).bd fun v r l => .ok (encRows v, r, l)
  else if (sort == [112, 114, 105, 109, 105, 116, 105, 118, 101]) = true then (wordP r l).bd fun v r l => match ops.lookup v with
    | none => .error l
    | some k => .ok (encN k, r, l)
  else match lettersD.lookup sort with
    | none => .error l
    | some w => (letteredP w r l).bd fun v r l => .ok (encN v, r, l)
noncomputable def sortOk (sort : List Nat) : Bool := (sort == [115, 111, 117, 114, 99, 101, 115]) || (sort == [114, 111, 119, 115]) || (sort == [112, 114, 105, 109, 105, 116, 105, 118, 101]) || (lettersD.lookup sort).isSome
section
variable {W : Wd} {Γ : Fc} {n : Nat} {m : Loc} {S : Store} {X : Int → Prop} {Q : AV → Store → Prop} {a d o : Addr} {t r : List Nat} {l : Nat}
theorem LS.neO {ops : List (List Nat × Nat)} (L : LS S a d t r l) (ho : S o = some (opsD ops)) : o ≠ d := fun e => by rw [e, L.flds] at ho; cases ho
theorem oper_ok {ops : List (List Nat × Nat)} {sort : List Nat} (hW : W.Ok) (hI : W.Is) (L : LS S a d t r l) (ho : S o = some (opsD ops)) (lo : (o == sysModules) = false) (hs : sortOk sort = true) (q : Res S d t Q X id (operP ops sort r l)) : WK W Γ 9 (.ref f_read_operand) [.ref a, .str sort, .ref o] m S Q X := by
  refine n_enter (fn_read_operand hW hI) nm_read_operand rfl fun Γ' hF => ?_
  refine s_cons ?_
  unfold operP at q
  walk_at "ws"
  refine c_eqs ⟨_, rfl, ite_b (fun h1 => ?_) fun h1 => ?_⟩
  · rw [if_pos h1] at q
    walk_at "ws"
    exact WF.le ((regs_ok hW hI L (Res.mono q.fin fun _ _ q => ret_now q)).toF) (by omega)
  rw [if_neg (by rw [h1]; decide)] at q
  walk_at "ws"
  refine c_eqs ⟨_, rfl, ite_b (fun h2 => ?_) fun h2 => ?_⟩
  · rw [if_pos h2] at q
    walk_at "ws"
    exact (rows_ok hW hI L (Res.mono q.fin fun _ _ q => ret_now q)).toF
  rw [if_neg (by rw [h2]; decide)] at q
  walk_at "ws"
  refine c_eqs ⟨_, rfl, ite_b (fun h3 => ?_) fun h3 => ?_⟩
  · rw [if_pos h3] at q
    walk_at "ws"
    refine L.me (me_Listing_word hI) ?_
    refine WF.le (word_ok hW hI L (q.bd fun v r' l' hs q => ?_)).toF (by omega)
    have L2 := L.upd (l' := l') hs
    have ho2 : upd S d (F t r' l') o = some (opsD ops) := by rw [upd_ne (L.neO ho)]; exact ho
    walk_at "ws"
    refine c_nind ho2 lo ⟨_, rfl, ite_b (fun h4 => ?_) fun h4 => ?_⟩
    · rw [ops_lookup, Option.isSome_map] at h4
      cases e : ops.lookup v with
      | some k => rw [e] at h4; cases h4
      | none =>
        rw [e] at q
        walk_at "ws"
        refine L2.me (me_Listing_refuse hI) ?_
        walk_at "ws"
        exact WF.le (refuse_ok hW hI L2 q).toF (by omega)
    · rw [ops_lookup, Option.isSome_map] at h4
      cases e : ops.lookup v with
      | none => rw [e] at h4; cases h4
      | some k =>
        rw [e] at q
        walk_at "ws"
        refine i_dct ho2 rfl (by rw [ops_lookup, e]; rfl) (ret_now ?_)
        have q := q hs
        rw [upd_upd] at q
        exact q
  rw [if_neg (by rw [h3]; decide)] at q
  unfold sortOk at hs
  rw [h1, h2, h3] at hs
  cases e : lettersD.lookup sort with
  | none => rw [e] at hs; cases hs
  | some w =>
    rw [e] at q
    walk_at "ws"
    refine L.me (me_Listing_lettered hI) ?_
    walk_at "ws"
    refine i_dctK (kd_letters hI) rfl (by rw [letters_lookup, e]; rfl) ?_
    walk_at "ws"
    exact WF.le ((lettered_ok hW hI L (Res.mono q.fin fun _ _ q => ret_now q)).toF) (by omega)
end
end
section
open PySem PySem.W PySem.Calls PyProof.Rows PySem.NumText
theorem PR.bd_bd {α β γ : Type} (x : PR α) (f : α → List Nat → Nat → PR β) (g : β → List Nat → Nat → PR γ) : (x.bd f).bd g = x.bd fun v r l => (f v r l).bd g := by
  cases x <;> rfl
noncomputable def opersL (ops : List (List Nat × Nat)) : List (List Nat) → List AV → List Nat → Nat → PR (List AV)
  | [], acc, r, l => .ok (acc, r, l)
  | s :: ss, acc, r, l => (operP ops s r l).bd fun v r l => opersL ops ss (acc ++ [v]) r l
noncomputable def instrP (ops : List (List Nat × Nat)) (r : List Nat) (l : Nat) : PR (List AV) := (wordP r l).bd fun w r l => match operandsD.lookup w with
  | none => .error l
  | some ss => (opersL ops ss [.str w] r l).bd fun vs r l => (endP r l).bd fun _ r l => .ok (vs, r, l)
theorem sorts_ok : (operandsD.all fun p => p.2.all sortOk && Nat.ble p.2.length 3) = true := by decide +kernel
theorem sorts_at {w : List Nat} {ss : List (List Nat)} (h : operandsD.lookup w = some ss) : (ss.all sortOk) = true ∧ ss.length ≤ 3 := by
  have key : ∀ (l : List (List Nat × List (List Nat))), (l.all fun p => p.2.all sortOk && Nat.ble p.2.length 3) = true → l.lookup w = some ss → (ss.all sortOk) = true ∧ ss.length ≤ 3 := by
    intro l
    induction l with
    | nil => intro _ h; cases h
    | cons p l ih =>
      intro h1 h2
      rw [List.all_cons, Bool.and_eq_true] at h1
      rw [List.lookup_cons] at h2
      split at h2
      · cases h2
        have h3 := h1.1
        rw [Bool.and_eq_true] at h3
        exact ⟨h3.1, Nat.le_of_ble_eq_true h3.2⟩
      · exact ih h1.2 h2
  exact key _ sorts_ok h
section
variable {W : Wd} {Γ : Fc} {n : Nat} {m : Loc} {S : Store} {X : Int → Prop} {Q : AV → Store → Prop} {a d o : Addr} {t r : List Nat} {l : Nat}
theorem ho_at {b : Addr} {x y z : AO} (ho : S o = some z) (hd : o ≠ d) (hb : S b = none) : upd (upd S d x) b y o = some z := by
  rw [upd_ne (by rintro rfl; rw [hb] at ho; cases ho), upd_ne hd]; exact ho
theorem instr_ok {ops : List (List Nat × Nat)} (hW : W.Ok) (hI : W.Is) (L : LS S a d t r l) (ho : S o = some (opsD ops)) (lo : (o == sysModules) = false) (q : Res S d t Q X .tup (instrP ops r l)) : WK W Γ 10 (.ref f_read_instruction) [.ref a, .ref o] m S Q X := by
  refine n_enter (fn_read_instruction hW hI) nm_read_instruction rfl fun Γ' hF => ?_
  refine s_cons ?_
  walk_at "ws"
  refine L.me (me_Listing_word hI) ?_
  refine WF.le (word_ok hW hI L (q.bd fun w r1 l1 hs q => ?_)).toF (by lia)
  have L1 := L.upd (l' := l1) hs
  have hod := L.neO ho
  have ho1 : upd S d (F t r1 l1) o = some (opsD ops) := by rw [upd_ne hod]; exact ho
  revert L1 ho1 q
  generalize upd S d (F t r1 l1) = S1
  intro q L1 ho1
  walk_at "ws"
  refine c_ninK (kd_operands hW hI) (by decide) ⟨_, rfl, ite_b (fun h1 => ?_) fun h1 => ?_⟩
  · rw [operands_lookup, Option.isSome_map] at h1
    cases e : operandsD.lookup w with
    | some k => rw [e] at h1; cases h1
    | none =>
      rw [e] at q
      walk_at "ws"
      refine L1.me (me_Listing_refuse hI) ?_
      walk_at "ws"
      exact WF.le (refuse_ok hW hI L1 q).toF (by lia)
  rw [operands_lookup, Option.isSome_map] at h1
  cases e : operandsD.lookup w with
  | none => rw [e] at h1; cases h1
  | some ss =>
  rw [e] at q
  obtain ⟨hss, hsl⟩ := sorts_at e
  walk_at "ws"
  refine e_list ?_
  walk_at "ws"
  refine ⟨by show (1 : Nat) ≤ 10000; lia, fun b hb => ?_⟩
  have hbd := L1.neb hb
  walk_at "ws"
  refine i_dctK (kd_operands hW hI) rfl (by rw [operands_lookup, e]; rfl) ?_
  refine ⟨ss.map .str, _, _, src_tup (.name _ _ _), fun k m1 S2 => (∃ o1, m1 = [some (.ref a), some (.ref o), some (.str w), some (.ref b), o1]) ∧ ∃ r2 l2 acc, r2 <:+ t ∧ S2 = upd (upd S1 d (F t r2 l2)) b (.lst acc) ∧ Res S1 d t Q X .tup ((opersL ops (ss.drop k) acc r2 l2).bd fun vs r l => (endP r l).bd fun _ r l => .ok (vs, r, l)) ∧ acc.length = k + 1, ?_, ?_, ?_⟩
  · exact ⟨⟨_, rfl⟩, r1, l1, [.str w], hs, by rw [upd_self L1.flds], q, rfl⟩
  · rintro k av m1 S2 hk ⟨⟨o1, rfl⟩, r2, l2, acc, hs2, rfl, q, hlen⟩
    rw [List.getElem?_map, Option.map_eq_some_iff] at hk
    obtain ⟨sort, hk, rfl⟩ := hk
    have hlt := (List.getElem?_eq_some_iff.mp hk).1
    have e2 : ss.drop k = sort :: ss.drop (k + 1) := by
      rw [List.drop_eq_getElem_cons hlt, ← (List.getElem?_eq_some_iff.mp hk).2]
    rw [e2] at q
    have hso : sortOk sort = true := List.all_eq_true.mp hss _ (List.mem_of_getElem? hk)
    have L2 := L1.at (b := b) (y := .lst acc) (l' := l2) hb hs2
    have hod1 := L1.neO ho1
    refine nw_name hF (i := 4) ?_ ?_
    · walk_at "ix"
    walk_at "ws"
    refine ⟨b, _, rfl, upd_same _ _ _, ?_⟩
    walk_at "ws"
    have q : Res S1 d t Q X AV.tup (((operP ops sort r2 l2).bd fun v r l => opersL ops (ss.drop (k + 1)) (acc ++ [v]) r l).bd fun vs r l => (endP r l).bd fun _ r l => .ok (vs, r, l)) := q
    rw [PR.bd_bd] at q
    refine (oper_ok hW hI L2 (ho_at ho1 hod1 hb) lo hso (Res.bdW hbd q fun v r3 l3 hv hs3 q => ?_)).toF
    refine ⟨_, upd_same _ _ _, by lia, ?_⟩
    walk_at "ws"
    exact ⟨⟨_, rfl⟩, r3, l3, acc ++ [v], hs3, by rw [upd_upd]; rfl, q, by rw [List.length_append, hlen]; rfl⟩
  · rintro m1 S2 ⟨⟨o1, rfl⟩, r2, l2, acc, hs2, rfl, q, hlen⟩
    rw [List.length_map] at hlen q
    rw [List.drop_length] at q
    have L2 := L1.at (b := b) (y := .lst acc) (l' := l2) hb hs2
    have q : Res S1 d t Q X AV.tup ((endP r2 l2).bd fun _ r l => .ok (acc, r, l)) := q
    walk_at "ws"
    refine L2.me (me_Listing_end_line hI) ?_
    refine WF.le (end_ok hW hI L2 (Res.bdW hbd q fun v r3 l3 hv hs3 q => ?_)).toF (by lia)
    walk_at "ws"
    refine f_tuple_lst (as := acc) (upd_same _ _ _) ?_ (by lia)
    exact ret_drop L1 hb (q hs3)
end
end
section
open PySem PySem.W PySem.Calls PyProof.Rows PySem.NumText
noncomputable def labOf : List (List Nat) → List AV → AV
  | s :: ss, v :: vs => if (s == [108, 97, 98, 101, 108]) = true then v else labOf ss vs
  | _, _ => .none
noncomputable def insLab : List AV → AV
  | .str w :: vs => match operandsD.lookup w with
    | some ss => labOf ss vs
    | none => .none
  | _ => .none
noncomputable def isLab0 : AV → Bool
  | .int i => i == 0
  | _ => false
noncomputable def labOk : AV → Bool
  | .none => true
  | .int i => i == 0
  | _ => false
noncomputable def insOk : List AV → Bool
  | .str w :: vs => match operandsD.lookup w with
    | some ss => ss.length == vs.length && labOk (labOf ss vs)
    | none => false
  | _ => false
noncomputable def labsOf (is : List (List AV)) : List Int := if (is.any fun i => isLab0 (insLab i)) = true then [0] else []
theorem subs_back {S : Store} {l : Addr} {x y : AO} (h : S l = none) : Subs S (upd (del (upd S l x) l) l y) := by
  intro a o e
  have hne : a ≠ l := by rintro rfl; rw [h] at e; cases e
  rw [upd_ne hne]
  unfold del
  rw [if_neg hne, upd_ne hne]; exact e
theorem del_upd {S : Store} {a d : Addr} {x : AO} (h : d ≠ a) : del (upd S d x) a = upd (del S a) d x := by
  funext b
  show (if b = a then none else if b = d then some x else S b) = if b = d then some x else if b = a then none else S b
  by_cases h1 : b = a
  · rw [if_pos h1, if_neg (by rw [h1]; exact h.symm), if_pos h1]
  · rw [if_neg h1, if_neg h1]
theorem upd_del {S : Store} {a : Addr} {x y : AO} : upd (del S a) a x = upd S a x := by
  funext b; unfold upd del
  by_cases h : b = a
  · rw [if_pos h, if_pos h]
  · rw [if_neg h, if_neg h, if_neg h]
section
variable {W : Wd} {Γ : Fc} {n : Nat} {m : Loc} {S : Store} {X : Int → Prop} {Q : AV → Store → Prop} {a d o : Addr} {t r : List Nat} {l : Nat}
theorem pairs_ok {w : List Nat} {vs : List AV} {ss : List (List Nat)} (hW : W.Ok) (hI : W.Is) (e : operandsD.lookup w = some ss) (hl : ss.length = vs.length) (q : ∀ l, S l = none → Q (.ref l) (upd S l (.lst (pairs2 (ss.map .str) vs)))) : WK W Γ 1 (.ref f_operand_pairs) [.tup (.str w :: vs)] m S Q X := by
  refine n_enter (fn_operand_pairs hW hI) nm_operand_pairs rfl fun Γ' hF => ?_
  obtain ⟨_, hsl⟩ := sorts_at e
  refine s_cons (s_ret ?_)
  refine e_lzip hF ?ker (bi_list hI) ?ker2 (bi_zip hI) rfl ?_
  case ker => kernel_rfl
  case ker2 => kernel_rfl
  walk_at "ws"
  refine i_tup (i := 0) rfl ?_ (by simp only [List.length_cons]; lia)
  refine i_dctK (kd_operands hW hI) rfl (by rw [operands_lookup, e]; rfl) ?_
  refine ns_cons rfl (e_tslice ?_)
  walk_at "ws"
  refine ⟨.str w :: vs, 1, rfl, rfl, Nat.le_refl _, by simp only [List.length_cons]; lia, by simp only [List.length_cons]; lia, ?_⟩
  walk_at "ws"
  refine ⟨ss.map .str, vs, rfl, by rw [List.length_map]; exact hl, by rw [List.length_map]; lia, fun l hn => ?_⟩
  exact ret_now (q l hn)
theorem pairs2_get {ss : List (List Nat)} {vs : List AV} {k : Nat} {av : AV} (h : (pairs2 (ss.map .str) vs)[k]? = some av) : ∃ s v, ss[k]? = some s ∧ vs[k]? = some v ∧ av = .tup [.str s, v] := by
  unfold pairs2 at h
  rw [List.getElem?_zipWith] at h
  rw [List.getElem?_map] at h
  cases h1 : ss[k]? with
  | none => rw [h1] at h; cases h
  | some s =>
    rw [h1] at h
    cases h2 : vs[k]? with
    | none => rw [h2] at h; cases h
    | some v => rw [h2] at h; cases h; exact ⟨s, v, rfl, rfl, rfl⟩
theorem drop_of {α : Type} {l : List α} {k : Nat} {x : α} (h : l[k]? = some x) : l.drop k = x :: l.drop (k + 1) := by
  have hlt := (List.getElem?_eq_some_iff.mp h).1
  rw [List.drop_eq_getElem_cons hlt, ← (List.getElem?_eq_some_iff.mp h).2]
theorem labelof_ok {w : List Nat} {vs : List AV} {ss : List (List Nat)} (hW : W.Ok) (hI : W.Is) (e : operandsD.lookup w = some ss) (hl : ss.length = vs.length) (q : Q (labOf ss vs) S) : WK W Γ 2 (.ref f_label_of) [.tup (.str w :: vs)] m S Q X := by
  refine n_enter (fn_label_of hW hI) nm_label_of rfl fun Γ' hF => ?_
  refine s_cons ?_
  walk_at "ws"
  refine (pairs_ok hW hI e hl fun b hb => ?_).toF
  refine ⟨pairs2 (ss.map .str) vs, _, _, src_lst (upd_same _ _ _) (.tup _ _ _ _ fun av hav => ?_), fun k m1 S1 => S1 = del (upd S b (.lst (pairs2 (ss.map .str) vs))) b ∧ (∃ o1 o2, m1 = [some (.tup (.str w :: vs)), o1, o2]) ∧ labOf ss vs = labOf (ss.drop k) (vs.drop k), ⟨rfl, ⟨_, _, rfl⟩, rfl⟩, ?_, ?_⟩
  · obtain ⟨k, hk⟩ := List.mem_iff_getElem?.mp hav
    obtain ⟨s, v, _, _, rfl⟩ := pairs2_get hk
    exact ⟨_, rfl⟩
  · rintro k av m1 S1 hk ⟨rfl, ⟨o1, o2, rfl⟩, hlab⟩
    obtain ⟨s, v, h1, h2, rfl⟩ := pairs2_get hk
    rw [drop_of h1, drop_of h2] at hlab
    refine w_tup (as_cons (nw_name hF (i := 1) ?ix1 (as_cons (nw_name hF (i := 2) ?ix2 (as_nil ?_)))))
    case ix1 => walk_at "ix"
    case ix2 => walk_at "ix"
    walk_at "ws"
    refine c_eqs ⟨_, rfl, ite_b (fun h3 => ?_) fun h3 => ?_⟩
    · walk_at "ws"
      have e3 : labOf ss vs = v := by rw [hlab]; unfold labOf; rw [if_pos h3]
      rw [e3] at q
      exact ⟨S, subs_back hb, q⟩
    · walk_at "ws"
      refine ⟨rfl, ⟨_, _, rfl⟩, ?_⟩
      rw [hlab]
      conv => lhs; unfold labOf
      rw [if_neg (by rw [h3]; decide)]
  · rintro m1 S1 ⟨rfl, ⟨o1, o2, rfl⟩, hlab⟩
    walk_at "ws"
    have e3 : labOf ss vs = .none := by
      rw [hlab]
      have h4 : ss.length ≤ (pairs2 (ss.map .str) vs).length := by unfold pairs2; rw [List.length_zipWith, List.length_map]; lia
      rw [List.drop_of_length_le h4]
      rfl
    rw [e3] at q
    exact ⟨S, subs_back hb, q⟩
theorem insOk_of {i : List AV} (h : insOk i = true) : ∃ w vs ss, i = .str w :: vs ∧ operandsD.lookup w = some ss ∧ ss.length = vs.length ∧ insLab i = labOf ss vs ∧ labOk (labOf ss vs) = true := by
  match i, h with
  | .str w :: vs, h =>
    unfold insOk at h
    unfold insLab
    cases e : operandsD.lookup w with
    | none => simp only [e] at h; cases h
    | some ss =>
      simp only [e, Bool.and_eq_true, beq_iff_eq] at h
      exact ⟨w, vs, ss, rfl, e, h.1, by simp only [e], h.2⟩
theorem labs_snoc (is : List (List AV)) (i : List AV) : labsOf (is ++ [i]) = if isLab0 (insLab i) = true then inKeys (labsOf is) 0 else labsOf is := by
  unfold labsOf
  rw [List.any_append]
  cases h1 : is.any fun i => isLab0 (insLab i) <;> cases h2 : isLab0 (insLab i) <;> simp [h2, inKeys]
theorem labs_met_ok {is : List (List AV)} (hW : W.Ok) (hI : W.Is) (e : S a = some (.lst (is.map .tup))) (hi : ∀ i ∈ is, insOk i = true) (q : ∀ l, S l = none → Q (.ref l) (upd S l (.lst ((labsOf is).map .int)))) : WK W Γ 3 (.ref f_labels_met) [.ref a] m S Q X := by
  refine n_enter (fn_labels_met hW hI) nm_labels_met rfl fun Γ' hF => ?_
  refine s_cons ?_
  walk_at "ws"
  refine e_dict0 fun d hd lo => ?_
  have hda : d ≠ a := by rintro rfl; rw [e] at hd; cases hd
  walk_at "ws"
  refine ⟨is.map .tup, _, _, src_lst (by rw [upd_ne hda.symm]; exact e) (.name _ _ _), fun k m1 S1 => (∃ o1 o2, m1 = [some (.ref a), some (.ref d), o1, o2]) ∧ ∃ o, S1 = upd (del S a) d (.raw o) ∧ IDict W o (labsOf (is.take k)), ⟨⟨_, _, rfl⟩, _, del_upd hda, idict0⟩, ?_, ?_⟩
  · rintro k av m1 S1 hk ⟨⟨o1, o2, rfl⟩, o, rfl, ho⟩
    rw [List.getElem?_map, Option.map_eq_some_iff] at hk
    obtain ⟨i, hk, rfl⟩ := hk
    obtain ⟨w, vs, ss, rfl, e1, e2, e3, e4⟩ := insOk_of (hi i (List.mem_of_getElem? hk))
    have ht : labsOf (is.take (k + 1)) = if isLab0 (labOf ss vs) = true then inKeys (labsOf (is.take k)) 0 else labsOf (is.take k) := by
      rw [show is.take (k + 1) = is.take k ++ [.str w :: vs] by rw [List.take_add_one, hk]; rfl, labs_snoc, e3]
    refine nw_name hF (i := 2) ?ix1 ?_
    case ix1 => walk_at "ix"
    walk_at "ws"
    refine (labelof_ok hW hI e1 e2 ?_).toF
    walk_at "ws"
    have hz : (labsOf (is.take k)).length ≤ 10000 := by unfold labsOf; split <;> decide
    revert e4 ht
    generalize labOf ss vs = lab
    intro e4 ht
    cases lab with
    | none =>
      refine c_isn (by simp) (by simp) fun c hc => ⟨c, rfl, ite_b (fun h => absurd (hc.mp h) (by simp)) fun _ => ?_⟩
      walk_at "ws"
      exact ⟨⟨_, _, rfl⟩, o, rfl, by rw [ht]; exact ho⟩
    | int i =>
      refine c_isn (by simp) (by simp) fun c hc => ⟨c, rfl, ite_b (fun h => ?_) fun h => absurd (hc.mpr (by simp)) (by rw [h]; decide)⟩
      have hi0 : i = 0 := by simpa [labOk] using e4
      subst hi0
      refine s_cons (n_setitem rfl ?_)
      walk_at "ws"
      refine set_idict (upd_same _ _ _) ho hz fun o' ho' => ?_
      rw [upd_upd]
      walk_at "ws"
      exact ⟨⟨_, _, rfl⟩, o', rfl, by rw [ht]; exact ho'⟩
    | bool _ => cases e4
    | str _ => cases e4
    | tup _ => cases e4
    | ref _ => cases e4
  · rintro m1 S1 ⟨⟨o1, o2, rfl⟩, o, rfl, ho⟩
    rw [List.length_map, List.take_length] at ho
    have e5 : upd (upd (del S a) d (.raw o)) a (.lst (is.map .tup)) = upd S d (.raw o) := by
      rw [upd_comm hda, upd_del (y := .raw o), upd_self e]
    rw [e5]
    walk_at "ws"
    have hz : (labsOf is).length < 64 := by unfold labsOf; split <;> decide
    refine f_sorted_idict (upd_same _ _ _) ho lo hz fun l ns hl hp hs => ?_
    have hns : ns = labsOf is := by
      revert hp
      unfold labsOf
      split
      · exact fun hp => List.perm_singleton.mp hp
      · exact fun hp => List.perm_nil.mp hp
    subst hns
    have hld : l ≠ d := by rintro rfl; rw [upd_same] at hl; cases hl
    rw [upd_ne hld] at hl
    refine ⟨upd S l (.lst ((labsOf is).map .int)), ?_, q l hl⟩
    intro x y hx
    by_cases h1 : x = l
    · subst h1; rw [upd_same] at hx ⊢; exact hx
    · rw [upd_ne h1] at hx
      have h2 : x ≠ d := by rintro rfl; rw [hd] at hx; cases hx
      rw [upd_ne h1, upd_ne h2]; exact hx
end
end
section
open PySem PySem.W PySem.Calls PyProof.Rows PySem.NumText
noncomputable def RP {α : Type} (t : List Nat) (K : α → List Nat → Nat → Prop) (X : Int → Prop) : PR α → Prop
  | .ok (v, r, l) => r <:+ t → K v r l
  | .error e => X (e : Int)
theorem RP.at {α β : Type} {t : List Nat} {K : β → List Nat → Nat → Prop} {X : Int → Prop} {S : Store} {d : Addr} {Q : AV → Store → Prop} {enc : α → AV} {x : PR α} {f : α → List Nat → Nat → PR β} (q : RP t K X (x.bd f))
    (k : ∀ v r' l', x = .ok (v, r', l') → r' <:+ t → RP t K X (f v r' l') → Q (enc v) (upd S d (F t r' l'))) : Res S d t Q X enc x := by
  cases x with
  | error e => exact q
  | ok p =>
    obtain ⟨v, r', l'⟩ := p
    exact fun h => k v r' l' rfl h q
theorem RP.at2 {α β : Type} {t : List Nat} {K : β → List Nat → Nat → Prop} {K' : α → List Nat → Nat → Prop} {X : Int → Prop} {x : PR α} {f : α → List Nat → Nat → PR β} (q : RP t K X (x.bd f))
    (k : ∀ v r' l', x = .ok (v, r', l') → r' <:+ t → RP t K X (f v r' l') → K' v r' l') : RP t K' X x := by
  cases x with
  | error e => exact q
  | ok p =>
    obtain ⟨v, r', l'⟩ := p
    exact fun h => k v r' l' rfl h q
noncomputable def Kp (d : Addr) (S S' : Store) : Prop := ∀ x y, x ≠ d → S x = some y → S' x = some y
theorem Kp.new {d b : Addr} {S S' : Store} {y : AO} (k : Kp d S S') (h : S b = none) : Kp d S (upd S' b y) := fun x z hx e => by
  rw [upd_ne (by rintro rfl; rw [h] at e; cases e)]; exact k x z hx e
theorem Kp.at {d : Addr} {S S' : Store} {y : AO} (k : Kp d S S') : Kp d S (upd S' d y) := fun x z hx e => by
  rw [upd_ne hx]; exact k x z hx e
theorem Kp.refl (d : Addr) (S : Store) : Kp d S S := fun _ _ _ e => e
theorem Kp.trans {d : Addr} {S1 S2 S3 : Store} (a : Kp d S1 S2) (b : Kp d S2 S3) : Kp d S1 S3 := fun x y h e => b x y h (a x y h e)
noncomputable def labelP (place : Nat) (r : List Nat) (l : Nat) : PR Bool := if ((wordAt (skip r)).take 1 != [76]) = true then .ok (false, skip r, l) else (letteredP [76] (skip r) l).bd fun v r l => if (v != place) = true then .error l else .ok (true, r, l)
theorem nei_nat (a b : Nat) : ((a : Int) != (b : Int)) = (a != b) := by
  by_cases h : a = b
  · subst h; simp
  · have h2 : ¬ (a : Int) = (b : Int) := by lia
    rw [bne_iff_ne.mpr h, bne_iff_ne.mpr h2]
section
variable {W : Wd} {Γ : Fc} {n : Nat} {m : Loc} {S : Store} {X : Int → Prop} {Q : AV → Store → Prop} {a d o : Addr} {t r : List Nat} {l : Nat}
theorem label_ok {place : Nat} (hW : W.Ok) (hI : W.Is) (L : LS S a d t r l) (q : Res S d t Q X .bool (labelP place r l)) : WK W Γ 7 (.ref f_read_label) [.ref a, .int (place : Int)] m S Q X := by
  refine n_enter (fn_read_label hW hI) nm_read_label rfl fun Γ' hF => ?_
  have hs := (skip_suf r).trans L.suf
  have L2 := L.upd (l' := l) hs
  unfold labelP at q
  refine s_cons ?_
  walk_at "ws"
  refine L.me (me_Listing_peek hI) ?_
  refine WF.le (peek_ok hW hI L ?_).toF (by lia)
  walk_at "ws"
  have hz := wordAt_le (skip r)
  have hz2 := L2.len
  have hz3 := L.sz
  refine ⟨wordAt (skip r), _, _, rfl, rfl, Bnd_nat 1, by lia, ?_⟩
  walk_at "ws"
  refine c_nes ⟨_, rfl, ite_b (fun h1 => ?_) fun h1 => ?_⟩
  · have h1' : ((wordAt (skip r)).take 1 != [76]) = true := h1
    rw [if_pos h1'] at q
    walk_at "ws"
    exact ret_now (q hs)
  · have h1' : ((wordAt (skip r)).take 1 != [76]) = false := h1
    rw [if_neg (by rw [h1']; decide)] at q
    walk_at "ws"
    refine L2.me (me_Listing_lettered hI) ?_
    walk_at "ws"
    refine (lettered_ok hW hI L2 (q.up.bd fun v r' l' hs' q => ?_)).toF
    have L3 := L2.upd (l' := l') hs'
    rw [upd_upd] at L3 q ⊢
    walk_at "ws"
    refine c_nei ?_
    rw [nei_nat]
    refine ⟨_, rfl, ite_b (fun h2 => ?_) fun h2 => ?_⟩
    · rw [if_pos h2] at q
      walk_at "ws"
      refine L3.me (me_Listing_refuse hI) ?_
      walk_at "ws"
      exact WF.le (refuse_ok hW hI L3 q).toF (by lia)
    · rw [if_neg (by rw [h2]; decide)] at q
      walk_at "ws"
      replace q := q hs'
      rw [upd_upd] at q
      exact ret_now q
end
end
section
open PySem PySem.W PySem.Calls PyProof.Rows PySem.NumText
noncomputable abbrev BIG : Nat := 1000000000
noncomputable def instrsL (ops : List (List Nat × Nat)) : Nat → List (List AV) → List Nat → List Nat → Nat → PR (List (List AV) × List Nat)
  | 0, _, _, _, _ => .error BIG
  | k + 1, fs, ts, r, l => (takesP [101, 110, 100] r l).bd fun b r l => if b = true then .ok ((fs, ts), r, l) else if decide (r = []) = true then .error l else
    (labelP fs.length r l).bd fun c r l => (instrP ops r l).bd fun i r l => instrsL ops k (fs ++ [i]) (if c = true then ts ++ [fs.length] else ts) r l
noncomputable def told0 (is : List (List AV)) : List Nat := if (is.any fun i => isLab0 (insLab i)) = true then [0] else []
noncomputable def instrsP (ops : List (List Nat × Nat)) (r : List Nat) (l : Nat) : PR (List (List AV)) := (instrsL ops 100 [] [] r l).bd fun p r l =>
  if (!p.1.all insOk) = true then .error BIG else if (p.2 != told0 p.1) = true then .error l else (endP r l).bd fun _ r l => .ok (p.1, r, l)
structure RI (S S3 : Store) (a d c b1 b2 o : Addr) (t r : List Nat) (l : Nat) (ops : List (List Nat × Nat)) (fs : List (List AV)) (ts : List Nat) : Prop where
  cell : S3 c = some (.cell (some (.ref b1)))
  fl : S3 b1 = some (.lst (fs.map .tup))
  tl : S3 b2 = some (.lst (ts.map encN))
  L : LS S3 a d t r l
  o : S3 o = some (opsD ops)
  kp : Kp d S S3
  n1 : S b1 = none
  n2 : S b2 = none
  ne : b1 ≠ b2
section
variable {S S3 : Store} {a d c b1 b2 o : Addr} {t r r' : List Nat} {l l' : Nat} {ops : List (List Nat × Nat)} {fs fs' : List (List AV)} {ts ts' : List Nat}
noncomputable def kindA : AO → Nat
  | .lst _ => 0
  | .inst _ _ => 1
  | .flds _ => 2
  | .cell _ => 3
  | .dct _ => 4
  | .ns _ => 5
  | .raw _ => 6
theorem ne_of {S : Store} {x y : Addr} {p q : AO} (h1 : S x = some p) (h2 : S y = some q) (h : (kindA p == kindA q) = false) : x ≠ y := fun e => by
  rw [e, h2] at h1; cases h1; rw [beq_self_eq_true] at h; cases h
theorem RI.at (h : RI S S3 a d c b1 b2 o t r l ops fs ts) (hs : r' <:+ t) : RI S (upd S3 d (F t r' l')) a d c b1 b2 o t r' l' ops fs ts where
  cell := by rw [upd_ne (ne_of h.cell h.L.flds rfl)]; exact h.cell
  fl := by rw [upd_ne (ne_of h.fl h.L.flds rfl)]; exact h.fl
  tl := by rw [upd_ne (ne_of h.tl h.L.flds rfl)]; exact h.tl
  L := h.L.upd hs
  o := by rw [upd_ne (ne_of h.o h.L.flds rfl)]; exact h.o
  kp := h.kp.at
  n1 := h.n1
  n2 := h.n2
  ne := h.ne
theorem LS.beside {b : Addr} {y z : AO} (L : LS S3 a d t r l) (hb : S3 b = some z) (h1 : (1 == kindA z) = false) (h2 : (2 == kindA z) = false) : LS (Mine.upd S3 b y) a d t r l :=
  ⟨by rw [upd_ne (ne_of L.inst hb h1)]; exact L.inst, by rw [upd_ne (ne_of L.flds hb h2)]; exact L.flds, L.suf, L.sz⟩
theorem RI.put1 (h : RI S S3 a d c b1 b2 o t r l ops fs ts) : RI S (upd S3 b1 (.lst (fs'.map .tup))) a d c b1 b2 o t r l ops fs' ts where
  cell := by rw [upd_ne (ne_of h.cell h.fl rfl)]; exact h.cell
  fl := upd_same _ _ _
  tl := by rw [upd_ne h.ne.symm]; exact h.tl
  L := h.L.beside h.fl rfl rfl
  o := by rw [upd_ne (ne_of h.o h.fl rfl)]; exact h.o
  kp := h.kp.new h.n1
  n1 := h.n1
  n2 := h.n2
  ne := h.ne
theorem RI.put2 (h : RI S S3 a d c b1 b2 o t r l ops fs ts) : RI S (upd S3 b2 (.lst (ts'.map encN))) a d c b1 b2 o t r l ops fs ts' where
  cell := by rw [upd_ne (ne_of h.cell h.tl rfl)]; exact h.cell
  fl := by rw [upd_ne h.ne]; exact h.fl
  tl := upd_same _ _ _
  L := h.L.beside h.tl rfl rfl
  o := by rw [upd_ne (ne_of h.o h.tl rfl)]; exact h.o
  kp := h.kp.new h.n2
  n1 := h.n1
  n2 := h.n2
  ne := h.ne
end
theorem RI.beside {S S3 : Store} {a d c b1 b2 o D : Addr} {t r : List Nat} {l : Nat} {ops : List (List Nat × Nat)} {fs : List (List AV)} {ts : List Nat} {y : AO} (h : RI S S3 a d c b1 b2 o t r l ops fs ts) (hD : S3 D = none) : RI S (upd S3 D y) a d c b1 b2 o t r l ops fs ts := by
  have ne : ∀ {x z}, S3 x = some z → x ≠ D := fun {x z} e => by rintro rfl; rw [hD] at e; cases e
  refine ⟨by rw [upd_ne (ne h.cell)]; exact h.cell, by rw [upd_ne (ne h.fl)]; exact h.fl, by rw [upd_ne (ne h.tl)]; exact h.tl, ⟨by rw [upd_ne (ne h.L.inst)]; exact h.L.inst, by rw [upd_ne (ne h.L.flds)]; exact h.L.flds, h.L.suf, h.L.sz⟩, by rw [upd_ne (ne h.o)]; exact h.o, h.kp.new ?_, h.n1, h.n2, h.ne⟩
  cases e : S D with
  | none => rfl
  | some z =>
    have := h.kp D z (ne h.L.flds).symm e
    rw [hD] at this; cases this
theorem Sl_back {S3 : Store} {lb D : Addr} {y y' x : AO} (h1 : S3 lb = none) (h2 : upd (upd (del (upd S3 lb y) lb) D x) lb y' D = some x) : Subs (upd S3 D x) (upd (upd (del (upd S3 lb y) lb) D x) lb y') := by
  intro b o e
  by_cases hb : b = D
  · subst hb; rw [upd_same] at e; cases e; exact h2
  · rw [upd_ne hb] at e
    have hl : b ≠ lb := by rintro rfl; rw [h1] at e; cases e
    rw [upd_ne hl, upd_ne hb]
    unfold del
    rw [if_neg hl, upd_ne hl]; exact e
theorem rds_nat (S : Store) : ∀ ts : List Nat, RDs S (ts.map encN) (ts.map fun k : Nat => Dat.int (k : Int))
  | [] => .nil
  | _ :: ts => .cons _ _ _ _ (.int _) (rds_nat S ts)
theorem nat_ne (a b : List Nat) : (a.map (fun k : Nat => Dat.int (k : Int)) ≠ b.map fun k : Nat => Dat.int (k : Int)) ↔ (a != b) = true := by
  have : ∀ a b : List Nat, a.map (fun k : Nat => Dat.int (k : Int)) = b.map (fun k : Nat => Dat.int (k : Int)) → a = b := by
    intro a
    induction a with
    | nil => intro b h; cases b with
      | nil => rfl
      | cons _ _ => cases h
    | cons x a ih => intro b h; cases b with
      | nil => cases h
      | cons y b =>
        simp only [List.map_cons, List.cons.injEq, Dat.int.injEq] at h
        have h1 : x = y := by lia
        rw [h1, ih b h.2]
  rw [bne_iff_ne]
  exact ⟨fun h q => h (by rw [q]), fun h q => h (this _ _ q)⟩
theorem nat_ok (a : List Nat) : ∀ d ∈ a.map (fun k : Nat => Dat.int (k : Int)), kqdOk 8 d = true := by
  intro d h
  obtain ⟨k, _, rfl⟩ := List.mem_map.mp h
  rfl
noncomputable def gLab (n : Nat) : AV → Option AV
  | .int i => if decide (i < (n : Int)) = true then some (.int i) else none
  | _ => none
theorem gLab_t {n : Nat} {i : Int} (h : decide (i < (n : Int)) = true) : gLab n (.int i) = some (.int i) := if_pos h
theorem gLab_s {n : Nat} {i : Int} : decide (i < (n : Int)) = (gLab n (.int i)).isSome := by
  cases h : decide (i < (n : Int)) with
  | true => rw [gLab_t h]; rfl
  | false => rw [show gLab n (.int i) = none from if_neg (by rw [h]; decide)]; rfl
theorem lab_told (fs : List (List AV)) : ((labsOf fs).map AV.int).filterMap (gLab fs.length) = (told0 fs).map encN := by
  unfold labsOf told0
  cases fs with
  | nil => rfl
  | cons f fs =>
    split
    · have : gLab (f :: fs).length (.int 0) = some (.int 0) := gLab_t (decide_eq_true (by rw [List.length_cons]; lia))
      rw [List.map_cons, List.map_nil, List.filterMap_cons_some this]; rfl
    · rfl
section
variable {W : Wd} {Γ : Fc} {n : Nat} {m : Loc} {S : Store} {X : Int → Prop} {Q : AV → Store → Prop} {a d o : Addr} {t r : List Nat} {l : Nat}
theorem instrs_ok {ops : List (List Nat × Nat)} (hW : W.Ok) (hI : W.Is) (L : LS S a d t r l) (ho : S o = some (opsD ops)) (lo : (o == sysModules) = false) (hX : ¬ X BIG)
    (q : RP t (fun is r' l' => ∀ b S', S b = none → Kp d S S' → LS S' a d t r' l' → S' b = some (.lst (is.map .tup)) → Q (.ref b) S') X (instrsP ops r l)) : WK W Γ 11 (.ref f_read_instructions) [.ref a, .ref o] m S Q X := by
  refine n_enterC (fn_read_instructions hW hI) nm_read_instructions rfl (m0 := [some (.ref a), some (.ref o), none]) (cv := none) (fun i x av h1 h2 => ?_) (show a_found ∉ pnames args_read_instructions by decide +kernel) fun Γ' c hF hc => ?_
  · match i, h1, h2 with
    | 0, h1, h2 => cases h1; cases h2; exact ⟨0, by kernel_rfl, rfl⟩
    | 1, h1, h2 => cases h1; cases h2; exact ⟨1, by kernel_rfl, rfl⟩
    | 2, h1, h2 => cases h2
    | i + 3, h1, h2 => cases h2
  refine s_cons (n_assignT rfl (by rw [ev_scope hF]; kernel_rfl) ?_)
  refine e_tuple (ns_cons rfl (e_list (es_nil ⟨by decide, fun b1 hb1 => ns_cons rfl (e_list (es_nil ⟨by decide, fun b2 hb2 => es_nil ⟨by show (2 : Nat) ≤ 10000; decide, ?_⟩⟩))⟩)))
  have hbc1 : b1 ≠ c := by rintro rfl; rw [upd_same] at hb1; cases hb1
  have hb12 : b2 ≠ b1 := by rintro rfl; rw [upd_same] at hb2; cases hb2
  rw [upd_ne hbc1] at hb1
  rw [upd_ne hb12] at hb2
  have hbc2 : b2 ≠ c := by rintro rfl; rw [upd_same] at hb2; cases hb2
  rw [upd_ne hbc2] at hb2
  refine w_tup (as_cons (w_cell hF (c := c) (by kernel_rfl) (by kernel_rfl) (v0 := none) (by rw [upd_ne hbc2.symm, upd_ne hbc1.symm, upd_same]) (as_cons (nw_name hF (i := 2) ?ix (as_nil ?_)))))
  case ix => walk_at "ix"
  have R : RI S (upd (upd (upd (upd S c (.cell none)) b1 (.lst [])) b2 (.lst [])) c (.cell (some (.ref b1)))) a d c b1 b2 o t r l ops [] [] := by
    have nn : ∀ {x y}, S x = some y → x ≠ c ∧ x ≠ b1 ∧ x ≠ b2 := fun {x y} h => ⟨(by rintro rfl; rw [hc] at h; cases h), (by rintro rfl; rw [hb1] at h; cases h), (by rintro rfl; rw [hb2] at h; cases h)⟩
    have up : ∀ {x y}, S x = some y → (upd (upd (upd (upd S c (.cell none)) b1 (.lst [])) b2 (.lst [])) c (.cell (some (.ref b1)))) x = some y := fun {x y} h => by
      obtain ⟨h1, h2, h3⟩ := nn h
      rw [upd_ne h1, upd_ne h3, upd_ne h2, upd_ne h1]; exact h
    exact ⟨upd_same _ _ _, by rw [upd_ne hbc1, upd_ne hb12.symm, upd_same]; rfl, by rw [upd_ne hbc2, upd_same]; rfl, ⟨up L.inst, up L.flds, L.suf, L.sz⟩, up ho, fun x y _ h => up h, hb1, hb2, hb12.symm⟩
  revert R
  generalize (upd (upd (upd (upd S c (.cell none)) b1 (.lst [])) b2 (.lst [])) c (.cell (some (.ref b1)))) = S2
  intro R
  have lk : ([(a_found, c)] : List (Str × Addr)).lookup a_found = some c := by kernel_rfl
  refine s_cons (n_while hF (fun k m2 S3 => m2 = [some (.ref a), some (.ref o), some (.ref b2)] ∧ ∃ r2 l2 fs ts, RI S S3 a d c b1 b2 o t r2 l2 ops fs ts ∧ RP t (fun is r' l' => ∀ b S', S b = none → Kp d S S' → LS S' a d t r' l' → S' b = some (.lst (is.map .tup)) → Q (.ref b) S') X ((instrsL ops k fs ts r2 l2).bd fun p r l =>
    if (!p.1.all insOk) = true then .error BIG else if (p.2 != told0 p.1) = true then .error l else (endP r l).bd fun _ r l => .ok (p.1, r, l)) ∧ fs.length + k ≤ 100 ∧ ts.length ≤ fs.length) 100 ⟨rfl, r, l, [], [], R, q, by decide, Nat.le_refl _⟩ ?_)
  rintro k m2 S3 ⟨rfl, r2, l2, fs, ts, R, q, hk, hts⟩
  cases k with
  | zero => exact absurd q hX
  | succ k =>
  unfold instrsL at q
  rw [PR.bd_bd] at q
  walk_at "ws"
  refine R.L.me (me_Listing_takes hI) ?_
  walk_at "ws"
  refine WF.le (takes_ok hW hI R.L (RP.at q fun b r3 l3 _ hs q => ?_)).toF (by lia)
  have R := R.at (l' := l3) hs
  cases b with
  | false =>
    refine ⟨_, rfl, ?_⟩
    rw [if_neg (by decide)] at q
    walk_at "ws"
    refine R.L.me (me_Listing_is_at_end hI) ?_
    refine WF.le (is_at_end_ok hW hI R.L ⟨_, rfl, ite_b (fun h1 => ?_) fun h1 => ?_⟩).toF (by lia)
    · rw [if_pos h1] at q
      walk_at "ws"
      refine R.L.me (me_Listing_refuse hI) ?_
      walk_at "ws"
      exact WF.le (refuse_ok hW hI R.L q).toF (by lia)
    rw [if_neg (by rw [h1]; decide), PR.bd_bd] at q
    walk_at "ws"
    refine n_cell hF (c := c) lk (by kernel_rfl) rfl R.cell ?_
    walk_at "ws"
    refine f_len_lst R.fl ?_ (by rw [List.length_map]; lia)
    rw [List.length_map]
    walk_at "ws"
    refine WF.le (n' := 7) (label_ok hW hI R.L (RP.at q fun cc r4 l4 _ hs q => ?_)).toF (by lia)
    have R := R.at (l' := l4) hs
    refine ⟨cc, rfl, ?_⟩
    rw [PR.bd_bd] at q
    have fin : ∀ (ts2 : List Nat) (S4 : Store), RI S S4 a d c b1 b2 o t r4 l4 ops fs ts2 → (if cc = true then ts ++ [fs.length] else ts) = ts2 → ts2.length ≤ fs.length + 1 →
        Res S4 d t (fun v S5 => ∃ as, S5 b1 = some (.lst as) ∧ as.length ≤ 100000 ∧ ∃ k', k' < k + 1 ∧ ([some (.ref a), some (.ref o), some (.ref b2)] : Loc) = [some (.ref a), some (.ref o), some (.ref b2)] ∧ ∃ r2 l2 fs ts, RI S (upd S5 b1 (.lst (as ++ [v]))) a d c b1 b2 o t r2 l2 ops fs ts ∧ RP t (fun is r' l' => ∀ b S', S b = none → Kp d S S' → LS S' a d t r' l' → S' b = some (.lst (is.map .tup)) → Q (.ref b) S') X ((instrsL ops k' fs ts r2 l2).bd fun p r l =>
    if (!p.1.all insOk) = true then .error BIG else if (p.2 != told0 p.1) = true then .error l else (endP r l).bd fun _ r l => .ok (p.1, r, l)) ∧ fs.length + k' ≤ 100 ∧ ts.length ≤ fs.length) X .tup (instrP ops r4 l4) := by
      intro ts2 S4 R e hts2
      rw [e] at q
      refine RP.at q fun i r5 l5 _ hs q => ?_
      have R := R.at (l' := l5) hs
      refine ⟨_, R.fl, by rw [List.length_map]; lia, k, Nat.lt_succ_self _, rfl, r5, l5, fs ++ [i], ts2, ?_, q, by rw [List.length_append]; simp only [List.length_cons, List.length_nil]; lia, by rw [List.length_append]; exact hts2⟩
      have R2 := R.put1 (fs' := fs ++ [i])
      rw [List.map_append] at R2
      exact R2
    cases cc with
    | true =>
      refine if_t ?_
      walk_at "ws"
      refine ⟨b2, _, rfl, R.tl, ?_⟩
      walk_at "ws"
      refine n_cell hF (c := c) lk (by kernel_rfl) rfl R.cell ?_
      walk_at "ws"
      refine f_len_lst R.fl ?_ (by rw [List.length_map]; lia)
      refine ⟨_, R.tl, by rw [List.length_map]; lia, ?_⟩
      have R2 := R.put2 (ts' := ts ++ [fs.length])
      rw [List.map_append] at R2
      have e1 : ([encN fs.length] : List AV) = [.int ((fs.map AV.tup).length : Int)] := by rw [List.length_map]; rfl
      rw [show ([fs.length].map encN) = [encN fs.length] from rfl, e1] at R2
      walk_at "ws"
      refine n_cell hF (c := c) lk (by kernel_rfl) rfl R2.cell ?_
      refine ⟨b1, _, rfl, R2.fl, ?_⟩
      walk_at "ws"
      exact (instr_ok hW hI R2.L R2.o lo (fin _ _ R2 rfl (by rw [List.length_append]; simp only [List.length_cons, List.length_nil]; lia))).toF.mono fun v S5 ⟨as, e1, e2, q⟩ => ⟨as, e1, e2, s_nil q⟩
    | false =>
      refine if_f ?_
      walk_at "ws"
      refine n_cell hF (c := c) lk (by kernel_rfl) rfl R.cell ?_
      refine ⟨b1, _, rfl, R.fl, ?_⟩
      walk_at "ws"
      exact (instr_ok hW hI R.L R.o lo (fin _ _ R rfl (by lia))).toF.mono fun v S5 ⟨as, e1, e2, q⟩ => ⟨as, e1, e2, s_nil q⟩
  | true =>
    refine ⟨_, rfl, ?_⟩
    rw [if_pos rfl] at q
    replace q : RP t (fun is r' l' => ∀ b S', S b = none → Kp d S S' → LS S' a d t r' l' → S' b = some (.lst (is.map .tup)) → Q (.ref b) S') X (if (!fs.all insOk) = true then .error BIG else if (ts != told0 fs) = true then .error l3 else (endP r3 l3).bd fun _ r l => .ok (fs, r, l)) := q
    cases hall : fs.all insOk with
    | false => rw [if_pos (by rw [hall]; rfl)] at q; exact absurd q hX
    | true =>
    rw [if_neg (by rw [hall]; decide)] at q
    walk_at "ws"
    refine e_map (cl := [(a_found, c)]) (by rw [ev_cells hF]; kernel_rfl) ?_ hF.blk
    walk_at "ws"
    refine n_cell hF (c := c) lk (by kernel_rfl) rfl R.cell ?_
    walk_at "ws"
    refine WF.le (labs_met_ok hW hI R.fl (fun i hi => List.all_eq_true.mp hall i hi) fun lb hlb => ?_).toF (by lia)
    refine ⟨(labsOf fs).map .int, _, _, src_lst (upd_same _ _ _) (.name _ _ _), by rw [List.length_map]; unfold labsOf; split <;> decide, gLab fs.length, ?_, ?_⟩
    · intro k' av C D acc hk' hCD hC hD
      rw [List.getElem?_map, Option.map_eq_some_iff] at hk'
      obtain ⟨i, _, rfl⟩ := hk'
      have keepS : ∀ x y ff, upd (del (upd (upd S3 d (F t r3 l3)) lb (.lst ((labsOf fs).map .int))) lb) D (.lst acc) C = none → (upd S3 d (F t r3 l3)) x = some y → upd (upd (del (upd (upd S3 d (F t r3 l3)) lb (.lst ((labsOf fs).map .int))) lb) D (.lst acc)) C (.ns ff) x = some y := by
        intro x y ff _ e
        have hl : x ≠ lb := by rintro rfl; rw [hlb] at e; cases e
        have hx : del (upd (upd S3 d (F t r3 l3)) lb (.lst ((labsOf fs).map .int))) lb x = some y := by unfold del; rw [if_neg hl, upd_ne hl]; exact e
        have h1 : x ≠ C := by rintro rfl; rw [hC] at hx; cases hx
        have h2 : x ≠ D := by rintro rfl; rw [hD] at hx; cases hx
        rw [upd_ne h1, upd_ne h2]; exact hx
      have hC' : upd (del (upd (upd S3 d (F t r3 l3)) lb (.lst ((labsOf fs).map .int))) lb) D (.lst acc) C = none := by rw [upd_ne hCD]; exact hC
      refine to_blk hF (upd_same _ _ _) (by simp) ?_
      rw [upd_upd]
      refine ⟨rfl, _, rfl, .one _ _ ?_⟩
      refine nt_cmp rfl ?_
      refine name_blk hF (upd_same _ _ _) (.head _) ?_
      refine isBi_blk hF (bi_len hI) rfl ?_
      refine ns_cons rfl ?_
      refine free_blk hF (c := c) lk (keepS _ _ _ hC' R.cell) ?_
      refine es_nil ?_
      refine f_len_lst (keepS _ _ _ hC' R.fl) ?_ (by rw [List.length_map]; lia)
      refine c_lti ⟨_, rfl, rfl, ?_, fun h => ?_⟩
      · rw [List.length_map]; exact gLab_s
      · refine name_blk hF (upd_same _ _ _) (.head _) ?_
        rw [List.length_map] at h
        exact ⟨gLab_t h, Subs.refl _⟩
    · intro D hD hfin
      refine ⟨_, Sl_back hlb (hfin D _ (upd_same _ _ _)), ?_⟩
      rw [lab_told]
      have hDn : (upd S3 d (F t r3 l3)) D = none := by
        by_cases hl : D = lb
        · rw [hl]; exact hlb
        · unfold del at hD
          rw [if_neg hl, upd_ne hl] at hD
          exact hD
      have R := R.beside (y := .lst ((told0 fs).map encN)) hDn
      refine c_nel R.tl (upd_same _ _ _) (rds_nat _ _) (rds_nat _ _) (nat_ok _) (nat_ok _) fun cc hcc => ?_
      rw [nat_ne] at hcc
      refine ⟨_, rfl, ite_b (fun h => ?_) fun h => ?_⟩
      · rw [if_pos (hcc.mp h)] at q
        walk_at "ws"
        refine R.L.me (me_Listing_refuse hI) ?_
        walk_at "ws"
        exact WF.le (refuse_ok hW hI R.L q).toF (by lia)
      · rw [if_neg (fun e => by rw [hcc.mpr e] at h; cases h)] at q
        walk_at "ws"
        refine R.L.me (me_Listing_end_line hI) ?_
        refine WF.le (n' := 5) (end_ok hW hI R.L (RP.at q fun _ r5 l5 _ hs q => ?_)).toF (by lia)
        have R := R.at (l' := l5) hs
        walk_at "ws"
        refine n_cell hF (c := c) lk (by kernel_rfl) rfl R.cell ?_
        exact ret_now (q hs b1 _ R.n1 R.kp R.L R.fl)
end
end
section
open PySem PySem.W PySem.Calls PyProof.Rows PySem.NumText
noncomputable def procF (v1 v2 v3 v4 v5 v6 v7 v8 : AV) : List (Str × AV) := [(a_number, v1), (a_title, v2), (a_needed, v3), (a_has_rest, v4), (a_is_continuation, v5), (a_registers, v6), (a_free, v7), (a_instructions, v8)]
theorem fset_len {x : Str} {w : AV} : ∀ {f : List (Str × AV)} {k : Nat}, f.length ≤ k → (fset x w f).length ≤ k + 1
  | [], k, _ => by unfold fset; simp
  | (y, v) :: f, 0, h => by simp at h
  | (y, v) :: f, k + 1, h => by
    unfold fset
    split
    · simp only [List.length_cons] at h ⊢; lia
    · have := fset_len (x := x) (w := w) (f := f) (k := k) (by simpa using h)
      simp only [List.length_cons]; lia
theorem procF_is (v1 v2 v3 v4 v5 v6 v7 v8 : AV) : fset a_instructions v8 (fset a_free v7 (fset a_registers v6 (fset a_is_continuation v5 (fset a_has_rest v4 (fset a_needed v3 (fset a_title v2 (fset a_number v1 []))))))) = procF v1 v2 v3 v4 v5 v6 v7 v8 := by kernel_rfl
theorem procF_ins (v1 v2 v3 v4 v5 v6 v7 v8 : AV) : fget a_instructions (procF v1 v2 v3 v4 v5 v6 v7 v8) = some v8 := by kernel_rfl
theorem listF_is (t : List Nat) : fset a_line (.int 0) (fset a_place (.int 0) (fset a_text (.str t) [])) = [(a_text, .str t), (a_place, .int 0), (a_line, .int 0)] := by kernel_rfl
noncomputable def ProcAt (S : Store) (b0 : Addr) (av : AV) (is : List (List AV)) : Prop := ∃ p dp f b, av = .ref p ∧ S p = some (.inst C_Procedure dp) ∧ S dp = some (.flds f) ∧ fget a_instructions f = some (.ref b) ∧ S b = some (.lst (is.map .tup)) ∧ b ≠ b0
theorem F_ins (t r : List Nat) (l : Nat) : F t r l = .flds [(a_text, .str t), (a_place, .int ((t.length - r.length : Nat) : Int)), (a_line, .int (l : Int))] := rfl
theorem ProcAt.kp {d b0 : Addr} {S S' : Store} {av : AV} {is : List (List AV)} {t r : List Nat} {l : Nat} (h : ProcAt S b0 av is) (hd : S d = some (F t r l)) (k : Kp d S S') : ProcAt S' b0 av is := by
  obtain ⟨p, dp, f, b, rfl, h1, h2, h3, h4, h5⟩ := h
  refine ⟨p, dp, f, b, rfl, k _ _ (ne_of h1 hd rfl) h1, k _ _ ?_ h2, h3, k _ _ (ne_of h4 hd rfl) h4, h5⟩
  rintro rfl
  rw [hd] at h2
  cases h2
  have : fget a_instructions [(a_text, AV.str t), (a_place, .int ((t.length - r.length : Nat) : Int)), (a_line, .int (l : Int))] = none := by kernel_rfl
  rw [this] at h3; cases h3
noncomputable def procP (ops : List (List Nat × Nat)) (number : Nat) (r : List Nat) (l : Nat) : PR (List (List AV)) := (countP r l).bd fun c r l => if (c != number) = true then .error l else
  (needP [110, 101, 101, 100, 101, 100] r l).bd fun _ r l => (countP r l).bd fun _ r l => (takesP [114, 101, 115, 116] r l).bd fun _ r l => (takesP [99, 111, 110, 116, 105, 110, 117, 97, 116, 105, 111, 110] r l).bd fun _ r l => (needP [114, 101, 103, 105, 115, 116, 101, 114, 115] r l).bd fun _ r l => (countP r l).bd fun _ r l =>
  (needP [102, 114, 101, 101] r l).bd fun _ r l => (countP r l).bd fun _ r l => (needP [116, 105, 116, 108, 101] r l).bd fun _ r l => (toldP r l).bd fun _ r l => (endP r l).bd fun _ r l => instrsP ops r l
theorem RP.mono {α : Type} {t : List Nat} {K K' : α → List Nat → Nat → Prop} {X : Int → Prop} {x : PR α} (q : RP t K X x) (k : ∀ v r l, r <:+ t → K v r l → K' v r l) : RP t K' X x := by
  cases x with
  | error e => exact q
  | ok p => exact fun h => k _ _ _ h (q h)
structure PI (S S3 : Store) (a d o : Addr) (t r : List Nat) (l : Nat) (ops : List (List Nat × Nat)) : Prop where
  L : LS S3 a d t r l
  o : S3 o = some (opsD ops)
  kp : Kp d S S3
theorem PI.at {S S3 : Store} {a d o : Addr} {t r r' : List Nat} {l l' : Nat} {ops : List (List Nat × Nat)} (h : PI S S3 a d o t r l ops) (hs : r' <:+ t) : PI S (upd S3 d (F t r' l')) a d o t r' l' ops :=
  ⟨h.L.upd hs, by rw [upd_ne (ne_of h.o h.L.flds rfl)]; exact h.o, h.kp.at⟩
section
variable {W : Wd} {Γ : Fc} {n : Nat} {m : Loc} {S : Store} {X : Int → Prop} {Q : AV → Store → Prop} {a d o : Addr} {t r : List Nat} {l : Nat}
theorem proc_init_ok {x dx : Addr} {v1 v2 v3 v4 v5 v6 v7 v8 : AV} (hW : W.Ok) (hI : W.Is) (hx : S x = some (.inst C_Procedure dx)) (hd : S dx = some (.flds [])) (q : Q .none (upd S dx (.flds (procF v1 v2 v3 v4 v5 v6 v7 v8)))) : WK W Γ 1 (.ref f_Procedure_init) [.ref x, v1, v2, v3, v4, v5, v6, v7, v8] m S Q X := by
  refine n_enter (fn_Procedure_init hW hI) nm_Procedure_init rfl fun Γ' hF => ?_
  have hne : x ≠ dx := ne_of hx hd rfl
  have inst : ∀ y, upd S dx y x = some (.inst C_Procedure dx) := fun y => by rw [upd_ne hne]; exact hx
  refine s_cons ?_
  walk_at "ws"
  refine ⟨x, C_Procedure, dx, _, _, rfl, hx, hd, sa_Procedure_number hI, by decide, rfl, ?_⟩
  walk_at "ws"
  refine ⟨x, C_Procedure, dx, _, _, rfl, inst _, upd_same _ _ _, sa_Procedure_title hI, Nat.le_trans (fset_len (Nat.le_refl _)) (by decide), rfl, ?_⟩
  rw [upd_upd]
  walk_at "ws"
  refine ⟨x, C_Procedure, dx, _, _, rfl, inst _, upd_same _ _ _, sa_Procedure_needed hI, Nat.le_trans (fset_len (fset_len (Nat.le_refl _))) (by decide), rfl, ?_⟩
  rw [upd_upd]
  walk_at "ws"
  refine ⟨x, C_Procedure, dx, _, _, rfl, inst _, upd_same _ _ _, sa_Procedure_has_rest hI, Nat.le_trans (fset_len (fset_len (fset_len (Nat.le_refl _)))) (by decide), rfl, ?_⟩
  rw [upd_upd]
  walk_at "ws"
  refine ⟨x, C_Procedure, dx, _, _, rfl, inst _, upd_same _ _ _, sa_Procedure_is_continuation hI, Nat.le_trans (fset_len (fset_len (fset_len (fset_len (Nat.le_refl _))))) (by decide), rfl, ?_⟩
  rw [upd_upd]
  walk_at "ws"
  refine ⟨x, C_Procedure, dx, _, _, rfl, inst _, upd_same _ _ _, sa_Procedure_registers hI, Nat.le_trans (fset_len (fset_len (fset_len (fset_len (fset_len (Nat.le_refl _)))))) (by decide), rfl, ?_⟩
  rw [upd_upd]
  walk_at "ws"
  refine ⟨x, C_Procedure, dx, _, _, rfl, inst _, upd_same _ _ _, sa_Procedure_free hI, Nat.le_trans (fset_len (fset_len (fset_len (fset_len (fset_len (fset_len (Nat.le_refl _))))))) (by decide), rfl, ?_⟩
  rw [upd_upd]
  walk_at "ws"
  refine ⟨x, C_Procedure, dx, _, _, rfl, inst _, upd_same _ _ _, sa_Procedure_instructions hI, Nat.le_trans (fset_len (fset_len (fset_len (fset_len (fset_len (fset_len (fset_len (Nat.le_refl _)))))))) (by decide), rfl, ?_⟩
  rw [upd_upd]
  walk_at "ws"
  rw [procF_is]
  exact nxt_now q
theorem list_init_ok {x dx : Addr} (hW : W.Ok) (hI : W.Is) (hx : S x = some (.inst C_Listing dx)) (hd : S dx = some (.flds [])) (q : Q .none (upd S dx (F t t 0))) : WK W Γ 1 (.ref f_Listing_init) [.ref x, .str t] m S Q X := by
  refine n_enter (fn_Listing_init hW hI) nm_Listing_init rfl fun Γ' hF => ?_
  have hne : x ≠ dx := ne_of hx hd rfl
  have inst : ∀ y, upd S dx y x = some (.inst C_Listing dx) := fun y => by rw [upd_ne hne]; exact hx
  refine s_cons ?_
  walk_at "ws"
  refine ⟨x, C_Listing, dx, _, _, rfl, hx, hd, sa_Listing_text hI, by decide, rfl, ?_⟩
  walk_at "ws"
  refine ⟨x, C_Listing, dx, _, _, rfl, inst _, upd_same _ _ _, sa_Listing_place hI, Nat.le_trans (fset_len (Nat.le_refl _)) (by decide), rfl, ?_⟩
  rw [upd_upd]
  walk_at "ws"
  refine ⟨x, C_Listing, dx, _, _, rfl, inst _, upd_same _ _ _, sa_Listing_line hI, Nat.le_trans (fset_len (fset_len (Nat.le_refl _))) (by decide), rfl, ?_⟩
  rw [upd_upd]
  walk_at "ws"
  rw [listF_is]
  have e : F t t 0 = .flds [(a_text, .str t), (a_place, .int 0), (a_line, .int 0)] := by rw [F_ins, Nat.sub_self]; rfl
  rw [e] at q
  exact nxt_now q
theorem proc_ok {ops : List (List Nat × Nat)} {number : Nat} (hW : W.Ok) (hI : W.Is) (L : LS S a d t r l) (ho : S o = some (opsD ops)) (lo : (o == sysModules) = false) (hX : ¬ X BIG)
    (q : RP t (fun is r' l' => ∀ av S', Kp d S S' → LS S' a d t r' l' → (∀ x, S x ≠ none → ProcAt S' x av is) → Q av S') X (procP ops number r l)) : WK W Γ 12 (.ref f_read_procedure) [.ref a, .int (number : Int), .ref o] m S Q X := by
  refine n_enter (fn_read_procedure hW hI) nm_read_procedure rfl fun Γ' hF => ?_
  have R : PI S S a d o t r l ops := ⟨L, ho, Kp.refl _ _⟩
  refine s_cons ?_
  walk_at "ws"
  refine R.L.me (me_Listing_count hI) ?_
  walk_at "ws"
  refine WF.le (n' := 6) (count_ok hW hI R.L (RP.at q fun v1 r l _ hs q => ?_)).toF (by lia)
  replace R := R.at (l' := l) hs
  walk_at "ws"
  refine c_nei ?_
  rw [nei_nat]
  refine ⟨_, rfl, ite_b (fun h1 => ?_) fun h1 => ?_⟩
  · rw [if_pos h1] at q
    walk_at "ws"
    refine R.L.me (me_Listing_refuse hI) ?_
    walk_at "ws"
    exact WF.le (refuse_ok hW hI R.L q).toF (by lia)
  rw [if_neg (by rw [h1]; decide)] at q
  walk_at "ws"
  refine R.L.me (me_Listing_need hI) ?_
  walk_at "ws"
  refine WF.le (n' := 6) (need_ok hW hI R.L (RP.at q fun w0 r l _ hs q => ?_)).toF (by lia)
  replace R := R.at (l' := l) hs
  walk_at "ws"
  refine R.L.me (me_Listing_count hI) ?_
  walk_at "ws"
  refine WF.le (n' := 6) (count_ok hW hI R.L (RP.at q fun w1 r l _ hs q => ?_)).toF (by lia)
  replace R := R.at (l' := l) hs
  walk_at "ws"
  refine R.L.me (me_Listing_takes hI) ?_
  walk_at "ws"
  refine WF.le (n' := 6) (takes_ok hW hI R.L (RP.at q fun w2 r l _ hs q => ?_)).toF (by lia)
  replace R := R.at (l' := l) hs
  walk_at "ws"
  refine R.L.me (me_Listing_takes hI) ?_
  walk_at "ws"
  refine WF.le (n' := 6) (takes_ok hW hI R.L (RP.at q fun w3 r l _ hs q => ?_)).toF (by lia)
  replace R := R.at (l' := l) hs
  walk_at "ws"
  refine R.L.me (me_Listing_need hI) ?_
  walk_at "ws"
  refine WF.le (n' := 6) (need_ok hW hI R.L (RP.at q fun w4 r l _ hs q => ?_)).toF (by lia)
  replace R := R.at (l' := l) hs
  walk_at "ws"
  refine R.L.me (me_Listing_count hI) ?_
  walk_at "ws"
  refine WF.le (n' := 6) (count_ok hW hI R.L (RP.at q fun w5 r l _ hs q => ?_)).toF (by lia)
  replace R := R.at (l' := l) hs
  walk_at "ws"
  refine R.L.me (me_Listing_need hI) ?_
  walk_at "ws"
  refine WF.le (n' := 6) (need_ok hW hI R.L (RP.at q fun w6 r l _ hs q => ?_)).toF (by lia)
  replace R := R.at (l' := l) hs
  walk_at "ws"
  refine R.L.me (me_Listing_count hI) ?_
  walk_at "ws"
  refine WF.le (n' := 6) (count_ok hW hI R.L (RP.at q fun w7 r l _ hs q => ?_)).toF (by lia)
  replace R := R.at (l' := l) hs
  walk_at "ws"
  refine R.L.me (me_Listing_need hI) ?_
  walk_at "ws"
  refine WF.le (n' := 6) (need_ok hW hI R.L (RP.at q fun w8 r l _ hs q => ?_)).toF (by lia)
  replace R := R.at (l' := l) hs
  walk_at "ws"
  refine R.L.me (me_Listing_told_text hI) ?_
  walk_at "ws"
  refine WF.le (n' := 7) (told_ok hW hI R.L (RP.at q fun w9 r l _ hs q => ?_)).toF (by lia)
  replace R := R.at (l' := l) hs
  walk_at "ws"
  refine R.L.me (me_Listing_end_line hI) ?_
  walk_at "ws"
  refine WF.le (n' := 5) (end_ok hW hI R.L (RP.at q fun w10 r l _ hs q => ?_)).toF (by lia)
  replace R := R.at (l' := l) hs
  walk_at "ws"
  refine (instrs_ok hW hI R.L R.o lo hX (RP.mono q fun is r5 l5 _ q b S5 hbn kp5 L5 hb5 => ?_)).toF
  have kp6 := R.kp.trans kp5
  walk_at "ws"
  refine n_call (g := C_Procedure) hF ?ker (gl_Procedure hI) (kp_Procedure hI) rfl ?_
  case ker => kernel_rfl
  walk_at "ws"
  refine WF.le (n' := 2) (make (mk_Procedure hI) (mi_Procedure hI) (mf_Procedure hI) fun x dx hx hdx hne => ?_) (by lia)
  refine proc_init_ok hW hI (upd_same _ _ _) (by rw [upd_ne hne.symm, upd_same]) ⟨rfl, ret_now ?_⟩
  have nn : ∀ {y z}, S5 y = some z → y ≠ x ∧ y ≠ dx := fun {y z} h => ⟨(by rintro rfl; rw [hx] at h; cases h), (by rintro rfl; rw [hdx] at h; cases h)⟩
  have up : ∀ {y z w1 w2 w3}, S5 y = some z → upd (upd (upd S5 dx w1) x w2) dx w3 y = some z := fun {y z _ _ _} h => by
    obtain ⟨h1, h2⟩ := nn h
    rw [upd_ne h2, upd_ne h1, upd_ne h2]; exact h
  exact q _ _ (fun y z hy h => up (kp6 y z hy h)) ⟨up L5.inst, up L5.flds, L5.suf, L5.sz⟩ fun y0 hy0 => ⟨x, dx, _, b, rfl, by rw [upd_ne hne, upd_same], upd_same _ _ _, procF_ins _ _ _ _ _ _ _ _, up hb5, by
    rintro rfl
    cases e : S b with
    | none => exact hy0 e
    | some z =>
      by_cases hbd : b = d
      · subst hbd; rw [R.L.flds] at hbn; cases hbn
      · have := R.kp b z hbd e
        rw [hbn] at this; cases this⟩
end
end
section
open PySem PySem.W PySem.Calls PyProof.Rows PySem.NumText
noncomputable def nmL : List (List Nat) := [[99, 97, 114], [99, 111, 110, 115], [108, 105, 115, 116, 45, 62, 118, 101, 99, 116, 111, 114]]
noncomputable def opsN : List (List Nat × Nat) := [([99, 97, 114], 0), ([99, 111, 110, 115], 1), ([108, 105, 115, 116, 45, 62, 118, 101, 99, 116, 111, 114], 2)]
noncomputable def procsL (ops : List (List Nat × Nat)) : Nat → List (List (List AV)) → List Nat → Nat → PR (List (List (List AV)))
  | 0, _, _, _ => .error BIG
  | k + 1, fs, r, l => (takesP [112, 114, 111, 99, 101, 100, 117, 114, 101] r l).bd fun b r l => if b = true then (procP ops fs.length r l).bd fun is r l => procsL ops k (fs ++ [is]) r l else .ok (fs, r, l)
inductive PAs (S : Store) (b0 : Addr) : List AV → List (List (List AV)) → Prop
  | nil : PAs S b0 [] []
  | cons (av : AV) (is : List (List AV)) (avs : List AV) (iss : List (List (List AV))) : ProcAt S b0 av is → PAs S b0 avs iss → PAs S b0 (av :: avs) (is :: iss)
theorem PAs.len {S : Store} {b0 : Addr} {avs : List AV} {iss : List (List (List AV))} (h : PAs S b0 avs iss) : avs.length = iss.length :=
  PAs.rec (motive := fun avs iss _ => avs.length = iss.length) rfl (fun _ _ _ _ _ _ e => congrArg (· + 1) e) h
theorem PAs.mono {S S' : Store} {b0 b1 : Addr} (k : ∀ av is, ProcAt S b0 av is → ProcAt S' b1 av is) {avs : List AV} {iss : List (List (List AV))} (h : PAs S b0 avs iss) : PAs S' b1 avs iss :=
  PAs.rec (motive := fun avs iss _ => PAs S' b1 avs iss) .nil (fun _ _ _ _ h _ r => .cons _ _ _ _ (k _ _ h) r) h
theorem PAs.snoc {S : Store} {b0 : Addr} {av : AV} {is : List (List AV)} (h : ProcAt S b0 av is) {avs : List AV} {iss : List (List (List AV))} (x : PAs S b0 avs iss) : PAs S b0 (avs ++ [av]) (iss ++ [is]) :=
  PAs.rec (motive := fun avs iss _ => PAs S b0 (avs ++ [av]) (iss ++ [is])) (.cons _ _ _ _ h .nil) (fun _ _ _ _ q _ r => .cons _ _ _ _ q r) x
theorem ProcAt.put {S : Store} {b0 : Addr} {av : AV} {is : List (List AV)} {l l' : List AV} (h : ProcAt S b0 av is) (e : S b0 = some (.lst l)) : ProcAt (upd S b0 (.lst l')) b0 av is := by
  obtain ⟨p, dp, f, b, rfl, h1, h2, h3, h4, h5⟩ := h
  exact ⟨p, dp, f, b, rfl, by rw [upd_ne (ne_of h1 e rfl)]; exact h1, by rw [upd_ne (ne_of h2 e rfl)]; exact h2, h3, by rw [upd_ne h5]; exact h4, h5⟩
theorem ProcAt.to {S S' : Store} {b0 b1 : Addr} {av : AV} {is : List (List AV)} (h : ProcAt S b0 av is) (k : ∀ x y, S x = some y → S' x = some y) (ne : ∀ l, S b1 ≠ some (.lst l)) : ProcAt S' b1 av is := by
  obtain ⟨p, dp, f, b, rfl, h1, h2, h3, h4, h5⟩ := h
  exact ⟨p, dp, f, b, rfl, k _ _ h1, k _ _ h2, h3, k _ _ h4, by rintro rfl; exact ne _ h4⟩
structure QI (S S3 : Store) (a d o b1 : Addr) (t r : List Nat) (l : Nat) (ops : List (List Nat × Nat)) (iss : List (List (List AV))) : Prop where
  L : LS S3 a d t r l
  o : S3 o = some (opsD ops)
  kp : Kp d S S3
  ex : ∃ avs, S3 b1 = some (.lst avs) ∧ PAs S3 b1 avs iss
  n1 : S b1 = none
theorem QI.at {S S3 : Store} {a d o b1 : Addr} {t r r' : List Nat} {l l' : Nat} {ops : List (List Nat × Nat)} {iss : List (List (List AV))} (h : QI S S3 a d o b1 t r l ops iss) (hs : r' <:+ t) : QI S (upd S3 d (F t r' l')) a d o b1 t r' l' ops iss := by
  obtain ⟨avs, e1, e2⟩ := h.ex
  exact ⟨h.L.upd hs, by rw [upd_ne (ne_of h.o h.L.flds rfl)]; exact h.o, h.kp.at, ⟨avs, by rw [upd_ne (ne_of e1 h.L.flds rfl)]; exact e1, e2.mono fun _ _ q => q.kp h.L.flds ((Kp.refl d S3).at)⟩, h.n1⟩
section
variable {W : Wd} {Γ : Fc} {n : Nat} {m : Loc} {S : Store} {X : Int → Prop} {Q : AV → Store → Prop} {a d o nA : Addr} {t r : List Nat} {l : Nat}
noncomputable def gOps : AV → Option AV
  | .tup [.int k, .str nm] => some (.tup [.str nm, .int k])
  | _ => none
theorem procs_ok (hW : W.Ok) (hI : W.Is) (L : LS S a d t r l) (hn : S nA = some (.lst (nmL.map .str))) (hX : ¬ X BIG)
    (q : RP t (fun iss r' l' => ∀ b avs S', S b = none → Kp d S S' → LS S' a d t r' l' → S' b = some (.lst avs) → PAs S' b avs iss → Q (.ref b) S') X (procsL opsN 100 [] r l)) : WK W Γ 13 (.ref f_read_procedures) [.ref a, .ref nA] m S Q X := by
  refine n_enter (fn_read_procedures hW hI) nm_read_procedures rfl fun Γ' hF => ?_
  refine s_cons ?_
  walk_at "ws"
  refine e_map (cl := []) (by kernel_rfl) ?_ hF.blk
  walk_at "ws"
  apply f_enum hn
  intro e S1 src
  refine ⟨_, _, _, src, by decide +kernel, gOps, ?_, ?_⟩
  · intro k av C D acc hk hCD hC hD
    obtain ⟨a0, h0, rfl⟩ := enum_get hk
    rw [List.getElem?_map, Option.map_eq_some_iff] at h0
    obtain ⟨w, _, rfl⟩ := h0
    refine w_tup (as_cons (to_blk hF (upd_same _ _ _) (by simp) (as_cons (to_blk hF (upd_same _ _ _) (by show a_name ∉ [a_op]; decide +kernel) (as_nil ?_)))))
    rw [upd_upd, upd_upd]
    refine ⟨rfl, _, rfl, .none _ ⟨rfl, rfl, fun _ => ?_⟩⟩
    exact e_tuple (ns_cons rfl (name_blk hF (upd_same _ _ _) (.head _) (ns_cons rfl (name_blk hF (upd_same _ _ _) (.tail _ (.head _)) (es_nil ⟨by show (2 : Nat) ≤ 10000; decide, rfl, Subs.refl _⟩)))))
  · intro D hD hfin
    have eL : (enumAV (nmL.map AV.str)).filterMap gOps = (opsN.map fun p => (p.1, encN p.2)).map fun p => .tup [.str p.1, p.2] := rfl
    rw [eL] at hfin ⊢
    have hDn : D ≠ nA := by
      rintro rfl
      have h1 := hfin _ _ (upd_same _ _ _)
      rw [upd_same] at h1
      cases h1
    have hDS : S D = none := by unfold del at hD; rwa [if_neg hDn] at hD
    refine ⟨upd S D (.lst ((opsN.map fun p => (p.1, encN p.2)).map fun p => .tup [.str p.1, p.2])), ?_, ?_⟩
    · intro b o e
      by_cases hb : b = nA
      · subst hb; rw [upd_ne hDn.symm, hn] at e; cases e; exact upd_same _ _ _
      · rw [upd_ne hb]
        by_cases hb2 : b = D
        · subst hb2; rw [upd_same] at e ⊢; exact e
        · rw [upd_ne hb2] at e ⊢; unfold del; rw [if_neg hb]; exact e
    walk_at "ws"
    refine f_dict_pairs (upd_same _ _ _) (by decide) (by decide +kernel) fun o ho lo => ?_
    have hoD : o ≠ D := by rintro rfl; rw [upd_same] at ho; cases ho
    rw [upd_ne hoD] at ho
    walk_at "ws"
    refine e_list (es_nil ⟨by decide, fun b hb => ?_⟩)
    have hbo : b ≠ o := by rintro rfl; rw [upd_same] at hb; cases hb
    rw [upd_ne hbo] at hb
    have hbD : b ≠ D := by rintro rfl; rw [upd_same] at hb; cases hb
    rw [upd_ne hbD] at hb
    have R : QI S (upd (upd (upd S D (.lst ((opsN.map fun p => (p.1, encN p.2)).map fun p => .tup [.str p.1, p.2]))) o (opsD opsN)) b (.lst [])) a d o b t r l opsN [] := by
      have nn : ∀ {x y}, S x = some y → x ≠ D ∧ x ≠ o ∧ x ≠ b := fun {x y} h => ⟨(by rintro rfl; rw [hDS] at h; cases h), (by rintro rfl; rw [ho] at h; cases h), (by rintro rfl; rw [hb] at h; cases h)⟩
      have up : ∀ {x y}, S x = some y → (upd (upd (upd S D (.lst ((opsN.map fun p => (p.1, encN p.2)).map fun p => .tup [.str p.1, p.2]))) o (opsD opsN)) b (.lst [])) x = some y := fun {x y} h => by
        obtain ⟨h1, h2, h3⟩ := nn h
        rw [upd_ne h3, upd_ne h2, upd_ne h1]; exact h
      exact ⟨⟨up L.inst, up L.flds, L.suf, L.sz⟩, by rw [upd_ne hbo.symm, upd_same], fun x y _ h => up h, ⟨[], upd_same _ _ _, .nil⟩, hb⟩
    revert R
    generalize (upd (upd (upd S D (.lst ((opsN.map fun p => (p.1, encN p.2)).map fun p => .tup [.str p.1, p.2]))) o (opsD opsN)) b (.lst [])) = S2
    intro R
    refine s_cons (n_while hF (fun k m2 S3 => m2 = [some (.ref a), some (.ref nA), some (.ref o), some (.ref b)] ∧ ∃ r2 l2 iss, QI S S3 a d o b t r2 l2 opsN iss ∧
      RP t (fun iss r' l' => ∀ b avs S', S b = none → Kp d S S' → LS S' a d t r' l' → S' b = some (.lst avs) → PAs S' b avs iss → Q (.ref b) S') X (procsL opsN k iss r2 l2) ∧ iss.length + k ≤ 100) 100 ⟨rfl, r, l, [], R, q, by decide⟩ ?_)
    rintro k m2 S3 ⟨rfl, r2, l2, iss, R, q, hk⟩
    cases k with
    | zero => exact absurd q hX
    | succ k =>
    unfold procsL at q
    walk_at "ws"
    refine R.L.me (me_Listing_takes hI) ?_
    walk_at "ws"
    refine WF.le (takes_ok hW hI R.L (RP.at q fun c r3 l3 _ hs q => ?_)).toF (by lia)
    replace R := R.at (l' := l3) hs
    obtain ⟨avs, e1, e2⟩ := R.ex
    cases c with
    | false =>
      refine ⟨_, rfl, ?_⟩
      rw [if_neg (by decide)] at q
      walk_at "ws"
      exact ret_now (q hs b avs _ R.n1 R.kp R.L e1 e2)
    | true =>
      refine ⟨_, rfl, ?_⟩
      rw [if_pos rfl] at q
      walk_at "ws"
      refine ⟨b, _, rfl, e1, ?_⟩
      walk_at "ws"
      refine f_len_lst e1 ?_ (by rw [e2.len]; lia)
      rw [e2.len]
      walk_at "ws"
      refine (proc_ok hW hI R.L R.o lo hX (RP.at2 q fun is r5 l5 _ hs5 q av S5 kp5 L5 hp => ?_)).toF
      have e5 : S5 b = some (.lst avs) := kp5 _ _ (ne_of e1 R.L.flds rfl) e1
      refine ⟨avs, e5, by rw [e2.len]; lia, ?_⟩
      walk_at "ws"
      refine ⟨k, Nat.lt_succ_self _, rfl, r5, l5, iss ++ [is], ⟨L5.beside e5 rfl rfl, ?_, (R.kp.trans kp5).new R.n1, ⟨_, upd_same _ _ _, PAs.snoc ((hp b (by rw [e1]; exact Option.some_ne_none _)).put e5) (e2.mono fun _ _ q => (q.kp R.L.flds kp5).put e5)⟩, R.n1⟩, q, by rw [List.length_append]; simp only [List.length_cons, List.length_nil]; lia⟩
      have eo := kp5 _ _ (ne_of R.o R.L.flds rfl) R.o
      rw [upd_ne (ne_of eo e5 rfl)]; exact eo
noncomputable def codeP (t : List Nat) : Except Nat (List (List (List AV))) := match procsL opsN 100 [] t 0 with
  | .error e => .error e
  | .ok (iss, r, l) => if decide (r = []) = true then .ok iss else .error l
noncomputable def CP {α : Type} (K : α → Prop) (X : Int → Prop) : Except Nat α → Prop
  | .ok v => K v
  | .error e => X (e : Int)
theorem code_ok (hW : W.Ok) (hI : W.Is) (hz : t.length ≤ 10000) (hn : S nA = some (.lst (nmL.map .str))) (hX : ¬ X BIG)
    (q : CP (fun iss => ∀ b avs S', S b = none → Subs S S' → S' b = some (.lst avs) → PAs S' b avs iss → Q (.ref b) S') X (codeP t)) : WK W Γ 14 (.ref f_read_code) [.str t, .ref nA] m S Q X := by
  refine n_enter (fn_read_code hW hI) nm_read_code rfl fun Γ' hF => ?_
  refine s_cons ?_
  walk_at "ws"
  refine n_call (g := C_Listing) hF ?ker (gl_Listing hI) (kp_Listing hI) rfl ?_
  case ker => kernel_rfl
  walk_at "ws"
  refine WF.le (n' := 2) (make (mk_Listing hI) (mi_Listing hI) (mf_Listing hI) fun x dx hx hdx hne => ?_) (by lia)
  refine list_init_ok hW hI (upd_same _ _ _) (by rw [upd_ne hne.symm, upd_same]) ⟨rfl, ?_⟩
  rw [upd_comm hne.symm, upd_upd, upd_comm hne]
  have L : LS (upd (upd S dx (F t t 0)) x (.inst C_Listing dx)) x dx t t 0 := ⟨upd_same _ _ _, by rw [upd_ne hne.symm, upd_same], List.suffix_refl _, hz⟩
  have hs : Subs S (upd (upd S dx (F t t 0)) x (.inst C_Listing dx)) := fun y z e => by
    rw [upd_ne (by rintro rfl; rw [hx] at e; cases e), upd_ne (by rintro rfl; rw [hdx] at e; cases e)]; exact e
  revert L hs
  generalize (upd (upd S dx (F t t 0)) x (.inst C_Listing dx)) = S2
  intro L hs
  have q2 : RP t (fun iss r' l' => ∀ b avs S', S2 b = none → Kp dx S2 S' → LS S' x dx t r' l' → S' b = some (.lst avs) → PAs S' b avs iss → CP (fun iss => ∀ b avs S', S b = none → Subs S S' → S' b = some (.lst avs) → PAs S' b avs iss → Q (.ref b) S') X (if decide (r' = []) = true then .ok iss else .error l')) X (procsL opsN 100 [] t 0) := by
    unfold codeP at q
    revert q
    cases procsL opsN 100 [] t 0 with
    | error e => exact id
    | ok p => exact fun q _ _ _ _ _ _ _ _ _ => q
  walk_at "ws"
  refine (procs_ok hW hI L (hs _ _ hn) hX (RP.mono q2 fun iss r3 l3 _ q b avs S3 hb kp L3 e3 hP => ?_)).toF
  have hsk : ∀ {y z}, S y = some z → y ≠ dx := fun {y z} e => by rintro rfl; rw [hdx] at e; cases e
  have hS : Subs S S3 := fun y z e => kp y z (hsk e) (hs y z e)
  have hbS : S b = none := by
    cases e : S b with
    | none => rfl
    | some z => have := hs b z e; rw [hb] at this; cases this
  walk_at "ws"
  refine L3.me (me_Listing_is_at_end hI) ?_
  refine WF.le (is_at_end_ok hW hI L3 ⟨_, rfl, ite_b (fun h1 => ?_) fun h1 => ?_⟩).toF (by lia)
  · rw [Bool.not_eq_true'] at h1
    rw [if_neg (by rw [h1]; decide)] at q
    walk_at "ws"
    refine L3.me (me_Listing_refuse hI) ?_
    walk_at "ws"
    exact WF.le (refuse_ok hW hI L3 (q b avs S3 hb kp L3 e3 hP)).toF (by lia)
  · rw [Bool.not_eq_false'] at h1
    rw [if_pos h1] at q
    walk_at "ws"
    exact ret_now (q b avs S3 hb kp L3 e3 hP b avs S3 hbS hS e3 hP)
end
end
section
open PySem PySem.W PySem.Calls PyProof.Rows PySem.NumText
noncomputable def joinT (sep : List Nat) : List (List Nat) → List Nat
  | [] => []
  | [x] => x
  | x :: y :: r => x ++ sep ++ joinT sep (y :: r)
theorem app_cps (x y : Str) : (x ++ y).cps.toList = x.cps.toList ++ y.cps.toList := by
  show (x.cps ++ y.cps).toList = _; simp
theorem join_cps (sep : Str) : ∀ ys : List Str, (Str.join sep ys).cps.toList = joinT sep.cps.toList (ys.map (·.cps.toList))
  | [] => rfl
  | [x] => rfl
  | x :: y :: r => by
    show (x ++ sep ++ Str.join sep (y :: r)).cps.toList = _
    rw [app_cps, app_cps, join_cps sep (y :: r)]; rfl
theorem strs_of {b : Heap} {tl : Led} {vs : List Value} {ws : List (List Nat)} : VRs b tl vs (ws.map .str) → ∃ ys, StrsAre vs ys ∧ ys.map (·.cps.toList) = ws := by
  induction ws generalizing vs with
  | nil => intro h; apply VRs.on_nil h; exact ⟨[], .nil, rfl⟩
  | cons w ws ih =>
    intro h
    apply VRs.on_cons h; intro v r h1 h2
    apply VR.on_str h1; intro s t e
    obtain ⟨ys, h3, h4⟩ := ih h2
    exact ⟨s :: ys, .cons _ _ h3, by rw [List.map_cons, e, h4]⟩
theorem dig_txt : ∀ k : Nat, k < 10 → (Str.ofString (toString (k : Int))).cps.toList = [48 + k] := by decide +kernel
theorem dig_log : ∀ k : Nat, k < 10 → ((k : Int).natAbs.log2 < 1920) := by decide +kernel
section
variable {W : Wd} {Γ : Fc} {n : Nat} {m : Loc} {S : Store} {X : Int → Prop} {cs : Scope} {ns : List Str} {cl : List (Str × Addr)} {Q : AV → Store → Prop}
theorem f_str {k : Nat} (hk : k < 10) (q : Q (.str [48 + k]) S) : WF W Γ n (.type "str") [.int (k : Int)] m S Q X := fun _ _ _ _ _ _ _ _ st r => by
  apply VRs.on1 r; intro v rv
  (apply VR.on_int rv; intro _)
  exact P.str_of_int (dig_log k hk) (.val st (.str _ _ _ (dig_txt k hk)) q _)
theorem f_join {l : Addr} {sep : List Nat} {ws : List (List Nat)} (e : S l = some (.lst (ws.map .str))) (hz : (ws.map List.length).sum + ws.length * sep.length ≤ 100000) (q : Q (.str (joinT sep ws)) S) : WF W Γ n (.builtin "str.join") [.str sep, .ref l] m S Q X := fun _ _ _ _ _ _ _ _ st r => by
  apply VRs.on_cons r; intro v _ rv rr
  apply VRs.on1 rr; intro v2 rv2
  apply VR.on_ref rv2
  apply VR.on_str rv; intro s t e1
  obtain ⟨mc, cs, c⟩ := id st
  obtain ⟨vs, k, hm, r, hl⟩ := c.lst e
  obtain ⟨ys, h1, h2⟩ := strs_of r
  refine join_list hl h1 ?_ fun t' k => .val st (.str _ _ _ ?_) q k
  · have e2 : ws.map List.length = ys.map (·.length) := by
      rw [← h2, List.map_map]; rfl
    have e3 : ws.length = ys.length := by rw [← h2, List.length_map]
    have e4 : sep.length = s.length := by rw [← e1]; rfl
    rw [e2, e3, e4] at hz
    exact Nat.le_trans hz (by decide)
  · show (Builtin.Str.glued s ys).cps.toList = _
    rw [StrLaws.glued_eq_join, join_cps, e1, h2]
inductive KJn2 (sep : List Nat) (Q : AV → Store → Prop) (x : AV) (S : Store) : Prop
  | mk (l : Addr) (ws : List (List Nat)) (e : x = .ref l) (hl : S l = some (.lst (ws.map .str))) (hz : (ws.map List.length).sum + ws.length * sep.length ≤ 100000) (q : Q (.str (joinT sep ws)) S)
inductive KJn (W : Wd) (Γ : Fc) (n : Nat) (e : Expr) (m : Loc) (Q : AV → Store → Prop) (X : Int → Prop) (v : AV) (S : Store) : Prop
  | mk (sep : List Nat) (ev : v = .str sep) (q : WE W Γ n e m S (KJn2 sep Q) X)
theorem n_join {x : Str} {o e : Expr} {apos pos : Pos} (hx : Str.ofString "join" = x) (h1 : noStar e = true) (h3 : (apos.endLine == pos.line) = true) (h4 : ∀ env, attributeBase o x env (eval o env) = eval o env)
    (h : WE W Γ n o m S (KJn W Γ n e m Q X) X) : WE W Γ n (.Call (.Attribute o x apos) [e] [] pos) m S Q X := by
  subst hx
  refine n_bmeth (by unfold plainArgs; rw [List.all_cons, h1]; rfl) rfl h3 h4 (h.mono ?_)
  rintro v S1 ⟨sep, rfl, q⟩
  refine ⟨_, bm_str F.slot_str_join F.type_str_join fun _ _ _ _ _ _ _ _ h => GM.join h, ns_cons h1 (q.mono ?_)⟩
  rintro x S2 ⟨l, ws, rfl, e1, e2, q⟩
  exact es_nil (f_join e1 e2 q)
theorem WEs.mono {pos : Pos} {es : List Expr} {Q Q' : List AV → Store → Prop} (h : WEs W Γ n pos es m S Q X) (k : ∀ a S', Q a S' → Q' a S') : WEs W Γ n pos es m S Q' X := fun hW hΓ B hd tl s hB hs =>
  wpAny_mono (h hW hΓ B hd tl s hB hs) (fun _ _ ⟨as, S1, tl', x, st, r, q⟩ => ⟨as, S1, tl', x, st, r, k _ _ q⟩) fun _ _ e => e
theorem Subs.new {S S' : Store} {l : Addr} {y : AO} (h : Subs S S') (hl : S' l = none) : Subs S (upd S' l y) := fun x z e => by
  have h1 := h x z e
  rw [upd_ne (by rintro rfl; rw [hl] at h1; cases h1)]; exact h1
theorem Subs.new0 {S S' : Store} {l : Addr} {y : AO} (h : Subs S S') (hl : S l = none) : Subs S (upd S' l y) := fun x z e => by
  rw [upd_ne (by rintro rfl; rw [hl] at e; cases e)]; exact h x z e
inductive KLsS (Q : AV → Store → Prop) (as : List AV) (S : Store) : Prop
  | mk (hz : as.length ≤ 10000) (q : ∀ l S', S l = none → Subs S S' → S' l = some (.lst as) → Q (.ref l) S')
theorem e_listS {es : List Expr} {pos : Pos} (h : WEs W Γ n pos es m S (KLsS Q) X) : WE W Γ n (.List es pos) m S Q X :=
  e_list (h.mono fun _ S1 ⟨hz, q⟩ => ⟨hz, fun l hl => q l _ hl ((Subs.refl S1).new hl) (upd_same _ _ _)⟩)
theorem b_addlS {l l2 : Addr} {as bs : List AV} (e : S l = some (.lst as)) (e2 : S l2 = some (.lst bs)) (hz : as.length + bs.length ≤ 10000) (q : ∀ l' S', S l' = none → Subs S S' → S' l' = some (.lst (as ++ bs)) → Q (.ref l') S') : WB W Γ n .Add (.ref l) (.ref l2) m S Q X :=
  b_addl e e2 (fun l' hl => q l' _ hl ((Subs.refl S).new hl) (upd_same _ _ _)) hz
inductive KStr (acc : List Nat) (P : List Nat → Store → Prop) (v : AV) (S : Store) : Prop
  | mk (w : List Nat) (e : v = .str w) (hz : (acc ++ w).length ≤ 1000) (q : P (acc ++ w) S)
inductive KDig (Q : AV → Store → Prop) (v : AV) (S : Store) : Prop
  | mk (k : Nat) (e : v = .int (k : Int)) (hk : k < 10) (q : Q (.str [48 + k]) S)
inductive KTxt (Q : AV → Store → Prop) (v : AV) (S : Store) : Prop
  | mk (w : List Nat) (e : v = .str w) (hz : w.length ≤ 1000) (q : Q (.str w) S)
noncomputable def WJ (W : Wd) (Γ : Fc) (n : Nat) (m : Loc) (X : Int → Prop) (Q : AV → Store → Prop) : List Expr → List Nat → Store → Prop
  | [], acc, S => Q (.str acc) S
  | e :: es, acc, S => WE W Γ n e m S (KStr acc fun u S1 => WJ W Γ n m X Q es u S1) X
theorem joins_of (hW : W.Ok) (hΓ : Γ.Ok W) {B : Around} (hB : AOk Γ n B) : ∀ (es : List Expr) (acc : Str) (S : Store) (hd tl : Led) (s : Shared), acc.cps.toList.length ≤ 1000 → St W Γ hd tl m S s → WJ W Γ n m X Q es acc.cps.toList S →
    Joins (model W.prog W.w) B (XP W Γ m X) (evalEach es Γ.ev) acc (fun out s₁ => out.length ≤ sizeLine ∧ Post W Γ hd tl m Q (.str out s₁.toks) { s₁ with toks := s₁.toks + 1 }) s
  | [], acc, S, hd, tl, s, hz, st, q => by
    refine ⟨?_, .val st (.str _ _ _ rfl) q _⟩
    show acc.cps.toList.length ≤ _
    rw [sizeLine_eq]; lia
  | e :: es, acc, S, hd, tl, s, hz, st, q => by
    show wpAny _ _ (eval e Γ.ev) _ _ _
    refine wpAny_mono (q hW hΓ B hd tl s hB st) ?_ fun _ _ e => e
    rintro v s1 ⟨av, S1, tl1, x1, st1, r1, w, rfl, hz1, q1⟩
    apply VR.on_str r1; intro y t hy
    have e1 : (acc ++ y).cps.toList = acc.cps.toList ++ w := by rw [app_cps, hy]
    refine ⟨y, t, rfl, ?_, ?_⟩
    · show (acc ++ y).cps.toList.length ≤ _
      rw [e1, sizeLine_eq]; lia
    · have := joins_of hW hΓ hB es (acc ++ y) S1 hd tl1 s1 (by rw [e1]; exact hz1) st1 (by rw [e1]; exact q1)
      revert this
      generalize evalEach es Γ.ev = L
      generalize acc ++ y = A
      have weak : ∀ (L : List (Sem Value)) (A : Str) (s1 : Shared), Joins (model W.prog W.w) B (XP W Γ m X) L A (fun out s₁ => out.length ≤ sizeLine ∧ Post W Γ hd tl1 m Q (.str out s₁.toks) { s₁ with toks := s₁.toks + 1 }) s1 → Joins (model W.prog W.w) B (XP W Γ m X) L A (fun out s₁ => out.length ≤ sizeLine ∧ Post W Γ hd tl m Q (.str out s₁.toks) { s₁ with toks := s₁.toks + 1 }) s1 := by
        intro L
        induction L with
        | nil => exact fun A s1 h => ⟨h.1, h.2.ext x1⟩
        | cons x L ih => exact fun A s1 h => wpAny_mono h (fun v s2 ⟨y, t, e, hz, q⟩ => ⟨y, t, e, hz, ih _ _ q⟩) fun _ _ e => e
      exact weak L A s1
theorem e_fstr {v1 v2 : Expr} {rest : List Expr} {pos : Pos} (h : WJ W Γ n m X Q (v1 :: v2 :: rest) [] S) : WE W Γ n (.JoinedStr (v1 :: v2 :: rest) pos) m S Q X := fun hW hΓ B hd tl s hB hs =>
  wpAny_JoinedStr (joins_of hW hΓ hB _ Str.empty S hd tl s (Nat.zero_le _) hs h)
theorem e_fvi {value : Expr} {pos : Pos} (h : WE W Γ n value m S (KDig Q) X) : WE W Γ n (.FormattedValue value (-1) none pos) m S Q X := fun hW hΓ B hd tl s hB hs => by
  refine wpAny_FormattedValue_plain (wpAny_mono (h hW hΓ B hd tl s hB hs) ?_ fun _ _ e => e)
  rintro v s1 ⟨av, S1, tl1, x1, st1, r1, k, rfl, hk, q⟩
  (apply VR.on_int r1; intro _)
  exact wpAny_formatField_int (dig_log k hk) ((Post.val st1 (.str _ _ _ (dig_txt k hk)) q _).ext x1)
theorem e_fvs {value : Expr} {pos : Pos} (h : WE W Γ n value m S (KTxt Q) X) : WE W Γ n (.FormattedValue value (-1) none pos) m S Q X := fun hW hΓ B hd tl s hB hs => by
  refine wpAny_FormattedValue_plain (wpAny_mono (h hW hΓ B hd tl s hB hs) ?_ fun _ _ e => e)
  rintro v s1 ⟨av, S1, tl1, x1, st1, r1, w, rfl, hk, q⟩
  apply VR.on_str r1; intro y t hy
  exact wpAny_formatField_str ((Post.now st1 (.str _ _ _ hy) q).ext x1) ((Post.val st1 (.str _ _ _ hy) q _).ext x1) (by show y.cps.toList.length ≤ _; rw [hy, sizeLine_eq]; lia)
end
end
section
open PySem PySem.W PySem.Calls PyProof.Rows PySem.NumText
noncomputable def regsT (l : List Nat) : List Nat := [40] ++ joinT [32] (l.map fun k => [114, 48 + k]) ++ [41]
theorem fm_enc {α : Type} {f : α → AV} {g : AV → Option AV} {h : α → AV} : ∀ {l : List α}, (∀ a ∈ l, g (f a) = some (h a)) → (l.map f).filterMap g = l.map h
  | [], _ => rfl
  | a :: l, e => by rw [List.map_cons, List.filterMap_cons, e a (.head _), List.map_cons, fm_enc fun b hb => e b (.tail _ hb)]
theorem joinT_len (sep : List Nat) : ∀ ws : List (List Nat), (joinT sep ws).length ≤ (ws.map List.length).sum + ws.length * sep.length
  | [] => Nat.zero_le _
  | [x] => by simp [joinT]
  | x :: y :: r => by
    have := joinT_len sep (y :: r)
    unfold joinT
    simp only [List.length_append, List.map_cons, List.sum_cons, List.length_cons, Nat.add_mul] at this ⊢
    lia
theorem sum_const {α : Type} (f : α → List Nat) (c : Nat) (h : ∀ a, (f a).length = c) : ∀ l : List α, ((l.map f).map List.length).sum = l.length * c
  | [] => by simp
  | a :: l => by rw [List.map_cons, List.map_cons, List.sum_cons, h, sum_const f c h l, List.length_cons, Nat.add_mul]; lia
theorem regsT_len {l : List Nat} (hz : l.length ≤ 100) : (regsT l).length ≤ 310 := by
  have h1 := joinT_len [32] (l.map fun k => [114, 48 + k])
  rw [sum_const _ 2 (fun _ => rfl), List.length_map] at h1
  unfold regsT
  simp only [List.length_append, List.length_cons, List.length_nil] at h1 ⊢
  lia
noncomputable def regOk (l : List Nat) : Bool := l.all (fun k => decide (k < 10)) && Nat.ble l.length 100
noncomputable def gReg : AV → Option AV
  | .int i => some (.str [114, 48 + i.toNat])
  | _ => none
theorem at_join : Str.ofString "join" = a_join := by kernel_rfl
section
variable {W : Wd} {Γ : Fc} {n : Nat} {m : Loc} {S : Store} {X : Int → Prop} {Q : AV → Store → Prop} {a d o nA : Addr} {t r : List Nat} {l : Nat}
theorem regs_text_ok {l : List Nat} (hW : W.Ok) (hI : W.Is) (hl : regOk l = true) (q : Q (.str (regsT l)) S) : WK W Γ 2 (.ref f_registers_text) [encR l] m S Q X := by
  unfold regOk at hl
  rw [Bool.and_eq_true, List.all_eq_true] at hl
  have hz : l.length ≤ 100 := Nat.le_of_ble_eq_true hl.2
  refine n_enter (fn_registers_text hW hI) nm_registers_text rfl fun Γ' hF => ?_
  refine s_cons ?_
  walk_at "ws"
  refine n_join at_join rfl rfl (fun _ => rfl) ?_
  walk_at "ws"
  refine ⟨_, rfl, ?_⟩
  refine e_map (cl := []) (by kernel_rfl) ?_ hF.blk
  walk_at "ws"
  refine ⟨_, _, _, src_tup (.name _ _ _), by rw [List.length_map]; lia, gReg, ?_, ?_⟩
  · intro k av C D acc hk hCD hC hD
    rw [List.getElem?_map, Option.map_eq_some_iff] at hk
    obtain ⟨i, hi, rfl⟩ := hk
    refine to_blk hF (upd_same _ _ _) (by simp) ?_
    rw [upd_upd]
    refine ⟨rfl, _, rfl, .none _ ⟨rfl, rfl, fun _ => ?_⟩⟩
    walk_at "ws"
    refine isTy_blk hF (bi_str hI) rfl (ns_cons rfl (name_blk hF (upd_same _ _ _) (.head _) (es_nil (f_str (of_decide_eq_true (hl.1 i (List.mem_of_getElem? hi))) (b_adds ⟨rfl, Subs.refl _⟩ (by show 1 + 1 ≤ 100000; decide))))))
  · intro D hD hfin
    refine ⟨_, Subs.refl _, ?_⟩
    have e : (l.map encN).filterMap gReg = (l.map fun k => [114, 48 + k]).map .str := by
      rw [List.map_map]; exact fm_enc fun a _ => rfl
    rw [e] at hfin ⊢
    have hz2 : ((l.map fun k => [114, 48 + k]).map List.length).sum + (l.map fun k => [114, 48 + k]).length * 1 ≤ 300 := by
      rw [sum_const _ 2 (fun _ => rfl), List.length_map]; lia
    refine ⟨D, _, rfl, upd_same _ _ _, Nat.le_trans hz2 (by decide), ?_⟩
    have h1 := joinT_len [32] (l.map fun k => [114, 48 + k])
    refine b_adds ?_ (by have := Nat.le_trans h1 hz2; simp only [List.length_cons, List.length_nil]; lia)
    walk_at "ws"
    refine b_adds ⟨S, ?_, q⟩ (by have := Nat.le_trans h1 hz2; simp only [List.length_append, List.length_cons, List.length_nil]; lia)
    intro x y e
    have : x ≠ D := by rintro rfl; rw [hD] at e; cases e
    rw [id, upd_ne this]; exact e
end
end
section
open PySem PySem.W PySem.Calls PyProof.Rows PySem.NumText
inductive Opd where
  | nums (l : List Nat)
  | rows (l : List Row)
  | num (k : Nat)
noncomputable def encO : Opd → AV
  | .nums l => encR l
  | .rows l => encRows l
  | .num k => encN k
noncomputable abbrev SRC : List Nat := [115, 111, 117, 114, 99, 101, 115]
noncomputable abbrev ROWS : List Nat := [114, 111, 119, 115]
noncomputable abbrev PRIM : List Nat := [112, 114, 105, 109, 105, 116, 105, 118, 101]
noncomputable def rowT (v : Row) : List Nat := [] ++ [114] ++ [48 + v.1] ++ [32, 112] ++ [48 + v.2.1] ++ [32] ++ regsT v.2.2
noncomputable def rowOk (v : Row) : Bool := decide (v.1 < 10) && decide (v.2.1 < 10) && regOk v.2.2
noncomputable def operT (sort : List Nat) : Opd → List Nat
  | .nums l => regsT l
  | .rows l => joinT [32] (l.map rowT)
  | .num k => if (sort == PRIM) = true then nmL.getD k [] else (lettersD.lookup sort).getD [] ++ [48 + k]
noncomputable def opdOk (sort : List Nat) : Opd → Bool
  | .nums l => sort == SRC && regOk l
  | .rows l => sort == ROWS && (l.all rowOk && Nat.ble l.length 10)
  | .num k => !(sort == SRC) && (!(sort == ROWS) && (decide (k < 10) && if (sort == PRIM) = true then decide (k < 3) else (lettersD.lookup sort).isSome))
theorem regOk_len {l : List Nat} (h : regOk l = true) : l.length ≤ 100 := by
  unfold regOk at h; rw [Bool.and_eq_true] at h; exact Nat.le_of_ble_eq_true h.2
theorem rowT_len {v : Row} (h : rowOk v = true) : (rowT v).length ≤ 400 := by
  unfold rowOk at h
  rw [Bool.and_eq_true] at h
  have := regsT_len (regOk_len h.2)
  unfold rowT
  simp only [List.length_append, List.length_cons, List.length_nil]
  lia
theorem sum_le {α : Type} {f : α → List Nat} {c : Nat} : ∀ {l : List α}, (∀ a ∈ l, (f a).length ≤ c) → ((l.map f).map List.length).sum ≤ l.length * c
  | [], _ => by simp
  | a :: l, h => by
    have h1 := h a (.head _)
    have h2 := sum_le (f := f) (l := l) fun b hb => h b (.tail _ hb)
    rw [List.map_cons, List.map_cons, List.sum_cons, List.length_cons, Nat.add_mul]; lia
noncomputable def decRow : AV → List Nat
  | .tup [.int a, .int b, .tup l] => rowT (a.toNat, b.toNat, l.map fun | .int i => i.toNat | _ => 0)
  | _ => []
theorem decRow_enc (v : Row) : decRow (encRow v) = rowT v := by
  show rowT (_, _, (v.2.2.map encN).map _) = rowT v
  rw [List.map_map]
  have : (v.2.2.map ((fun | AV.int i => i.toNat | _ => 0) ∘ encN)) = v.2.2 := by
    conv => rhs; rw [← List.map_id v.2.2]
    exact List.map_congr_left fun a _ => rfl
  rw [this]; rfl
theorem lookup_all {β : Type} {p : β → Bool} {k : List Nat} {v : β} : ∀ {l : List (List Nat × β)}, (l.all fun x => p x.2) = true → l.lookup k = some v → p v = true
  | [], _, h => by cases h
  | (a, b) :: l, h1, h2 => by
    rw [List.all_cons, Bool.and_eq_true] at h1
    rw [List.lookup_cons] at h2
    split at h2
    · cases h2; exact h1.1
    · exact lookup_all h1.2 h2
theorem letters_len {s w : List Nat} (h : lettersD.lookup s = some w) : w.length ≤ 10 := Nat.le_of_ble_eq_true (lookup_all (p := fun w => Nat.ble w.length 10) (by decide +kernel) h)
noncomputable def gRow (v : AV) : Option AV := some (.str (decRow v))
section
variable {W : Wd} {Γ : Fc} {n : Nat} {m : Loc} {S : Store} {X : Int → Prop} {Q : AV → Store → Prop} {a d o nA : Addr} {t r : List Nat} {l : Nat}
theorem oper_text_ok {sort : List Nat} {v : Opd} (hW : W.Ok) (hI : W.Is) (hn : S nA = some (.lst (nmL.map .str))) (hv : opdOk sort v = true) (q : Q (.str (operT sort v)) S) : WK W Γ 3 (.ref f_operand_text) [.str sort, encO v, .ref nA] m S Q X := by
  refine n_enter (fn_operand_text hW hI) nm_operand_text rfl fun Γ' hF => ?_
  refine s_cons ?_
  cases v with
  | nums l =>
    unfold opdOk at hv
    rw [Bool.and_eq_true] at hv
    walk_at "ws"
    refine c_eqs ⟨_, rfl, ite_b (fun h1 => ?_) fun h1 => absurd hv.1 (by rw [h1]; decide)⟩
    walk_at "ws"
    exact (regs_text_ok hW hI hv.2 (ret_now q)).toF
  | rows l =>
    unfold opdOk at hv
    rw [Bool.and_eq_true, Bool.and_eq_true] at hv
    obtain ⟨h0, h1, h2⟩ := hv
    obtain rfl := eq_of_beq h0
    have hz : l.length ≤ 10 := Nat.le_of_ble_eq_true h2
    rw [List.all_eq_true] at h1
    walk_at "ws"
    refine c_eqs ⟨_, rfl, if_f ?_⟩
    walk_at "ws"
    refine c_eqs ⟨_, rfl, if_f ?_⟩
    walk_at "ws"
    refine c_eqs ⟨_, rfl, if_t ?_⟩
    walk_at "ws"
    refine n_join at_join rfl rfl (fun _ => rfl) ?_
    walk_at "ws"
    refine ⟨_, rfl, ?_⟩
    refine e_map (cl := []) (by kernel_rfl) ?_ hF.blk
    walk_at "ws"
    refine ⟨l.map encRow, _, _, src_tup (.tup _ _ _ _ fun av hav => ?_), by rw [List.length_map]; lia, gRow, ?_, ?_⟩
    · obtain ⟨v, _, rfl⟩ := List.mem_map.mp hav
      exact ⟨_, rfl⟩
    · intro k av C D acc hk hCD hC hD
      rw [List.getElem?_map, Option.map_eq_some_iff] at hk
      obtain ⟨v, hi, rfl⟩ := hk
      have hr := h1 v (List.mem_of_getElem? hi)
      have hrl := rowT_len hr
      unfold rowOk at hr
      rw [Bool.and_eq_true, Bool.and_eq_true] at hr
      obtain ⟨⟨hr1, hr2⟩, hr3⟩ := hr
      have hl3 := regsT_len (regOk_len hr3)
      refine w_tup (as_cons (to_blk hF (upd_same _ _ _) (by simp) (as_cons (to_blk hF (upd_same _ _ _) (by show a_number ∉ [a_register]; decide +kernel) (as_cons (to_blk hF (upd_same _ _ _) (by show a_own ∉ [a_number, a_register]; decide +kernel) (as_nil ?_)))))))
      rw [upd_upd, upd_upd, upd_upd]
      refine ⟨rfl, _, rfl, .none _ ⟨rfl, rfl, fun _ => ?_⟩⟩
      refine e_fstr (e_str tx_a_r ⟨_, rfl, by show 1 ≤ 1000; decide, e_fvi (name_blk hF (upd_same _ _ _) (.tail _ (.tail _ (.head _))) ⟨v.1, rfl, of_decide_eq_true hr1, _, rfl, by show 2 ≤ 1000; decide, ?_⟩)⟩)
      refine e_str tx_t_7 ⟨_, rfl, by show 4 ≤ 1000; decide, e_fvi (name_blk hF (upd_same _ _ _) (.tail _ (.head _)) ⟨v.2.1, rfl, of_decide_eq_true hr2, _, rfl, by show 5 ≤ 1000; decide, ?_⟩)⟩
      refine e_str tx_t_4 ⟨_, rfl, by show 6 ≤ 1000; decide, e_fvs (call_blk hF (gl_registers_text hI) (kp_registers_text hI) rfl (ns_cons rfl (name_blk hF (upd_same _ _ _) (.head _) (es_nil (regs_text_ok hW hI hr3 ⟨_, rfl, by lia, _, rfl, ?_, ?_⟩).toF))))⟩
      · simp only [List.length_append, List.length_cons, List.length_nil]; lia
      · show gRow (encRow v) = some (.str (rowT v)) ∧ _
        exact ⟨by unfold gRow; rw [decRow_enc], Subs.refl _⟩
    · intro D hD hfin
      refine ⟨_, Subs.refl _, ?_⟩
      have e : (l.map encRow).filterMap gRow = (l.map rowT).map .str := by
        rw [List.map_map]; exact fm_enc fun a _ => by unfold gRow; rw [decRow_enc]; rfl
      rw [e] at hfin ⊢
      have hz2 : ((l.map rowT).map List.length).sum ≤ l.length * 400 := sum_le fun v hv => rowT_len (h1 v hv)
      refine ⟨D, _, rfl, upd_same _ _ _, by rw [List.length_map]; simp only [List.length_cons, List.length_nil]; lia, S, ?_, q⟩
      intro x y e
      have : x ≠ D := by rintro rfl; rw [hD] at e; cases e
      rw [id, upd_ne this]; exact e
  | num k =>
    unfold opdOk at hv
    rw [Bool.and_eq_true, Bool.and_eq_true, Bool.and_eq_true, Bool.not_eq_true', Bool.not_eq_true'] at hv
    obtain ⟨h1, h2, h3, h4⟩ := hv
    replace q : Q (AV.str (if (sort == PRIM) = true then nmL.getD k [] else (lettersD.lookup sort).getD [] ++ [48 + k])) S := q
    walk_at "ws"
    refine c_eqs ⟨_, rfl, ite_b (fun h => absurd (h1.symm.trans h) (by decide)) fun _ => ?_⟩
    walk_at "ws"
    refine c_eqs ⟨_, rfl, ite_b (fun h => ?_) fun h => ?_⟩
    · replace h : (sort == PRIM) = true := h
      rw [if_pos h] at q
      rw [if_pos h] at h4
      walk_at "ws"
      refine i_lst hn ?_ (ret_now q) (by decide)
      have h5 := of_decide_eq_true h4
      match k, h5 with
      | 0, _ => rfl
      | 1, _ => rfl
      | 2, _ => rfl
    · replace h : (sort == PRIM) = false := h
      rw [if_neg (by rw [h]; decide)] at q h4
      walk_at "ws"
      refine c_eqs ⟨_, rfl, ite_b (fun h => absurd (h2.symm.trans h) (by decide)) fun _ => ?_⟩
      cases e : lettersD.lookup sort with
      | none => rw [e] at h4; cases h4
      | some w =>
        rw [e] at q
        walk_at "ws"
        refine i_dctK (kd_letters hI) rfl (by rw [letters_lookup, e]; rfl) ?_
        walk_at "ws"
        refine f_str (of_decide_eq_true h3) (b_adds (ret_now q) ?_)
        have := letters_len e
        simp only [List.length_cons, List.length_nil]; lia
theorem operT_len {sort : List Nat} {v : Opd} (hv : opdOk sort v = true) : (operT sort v).length ≤ 5000 := by
  cases v with
  | nums l =>
    unfold opdOk at hv; rw [Bool.and_eq_true] at hv
    have := regsT_len (regOk_len hv.2)
    show (regsT l).length ≤ _; lia
  | rows l =>
    unfold opdOk at hv; rw [Bool.and_eq_true, Bool.and_eq_true, List.all_eq_true] at hv
    have h1 := joinT_len [32] (l.map rowT)
    have hz2 : ((l.map rowT).map List.length).sum ≤ l.length * 400 := sum_le fun v h => rowT_len (hv.2.1 v h)
    have hz : l.length ≤ 10 := Nat.le_of_ble_eq_true hv.2.2
    rw [List.length_map] at h1
    simp only [List.length_cons, List.length_nil] at h1
    show (joinT [32] (l.map rowT)).length ≤ _; lia
  | num k =>
    unfold opdOk at hv
    rw [Bool.and_eq_true, Bool.and_eq_true, Bool.and_eq_true] at hv
    obtain ⟨_, _, _, h4⟩ := hv
    show (if (sort == PRIM) = true then nmL.getD k [] else (lettersD.lookup sort).getD [] ++ [48 + k]).length ≤ _
    split at h4
    · rename_i h
      rw [if_pos h]
      have h5 := of_decide_eq_true h4
      match k, h5 with
      | 0, _ => decide
      | 1, _ => decide
      | 2, _ => decide
    · rename_i h
      rw [if_neg h]
      cases e : lettersD.lookup sort with
      | none => rw [e] at h4; cases h4
      | some w =>
        have := letters_len e
        show (w ++ [48 + k]).length ≤ _
        rw [List.length_append]; simp only [List.length_cons, List.length_nil]; lia
end
structure Ins where
  w : List Nat
  o : List Opd
noncomputable def encI (i : Ins) : List AV := .str i.w :: i.o.map encO
noncomputable def insT (i : Ins) : List Nat := joinT [32] (i.w :: List.zipWith operT ((operandsD.lookup i.w).getD []) i.o)
noncomputable def allOk : List (List Nat) → List Opd → Bool
  | [], os => os.isEmpty
  | s :: ss, os => match os with
    | [] => false
    | o :: os => opdOk s o && allOk ss os
noncomputable def insTOk (i : Ins) : Bool := match operandsD.lookup i.w with
  | none => false
  | some ss => allOk ss i.o
theorem allOk_and {s : List Nat} {ss : List (List Nat)} {o : Opd} {os : List Opd} (h : allOk (s :: ss) (o :: os) = true) : opdOk s o = true ∧ allOk ss os = true := Bool.and_eq_true_iff.mp h
theorem allOk_len {ss : List (List Nat)} {os : List Opd} (h : allOk ss os = true) : ss.length = os.length := by
  induction ss generalizing os with
  | nil => cases os with
    | nil => rfl
    | cons _ _ => cases h
  | cons s ss ih => cases os with
    | nil => cases h
    | cons o os => exact congrArg (· + 1) (ih (allOk_and h).2)
theorem allOk_at {ss : List (List Nat)} {os : List Opd} {k : Nat} {s : List Nat} {o : Opd} (h : allOk ss os = true) (h1 : ss[k]? = some s) (h2 : os[k]? = some o) : opdOk s o = true := by
  induction ss generalizing os k with
  | nil => cases h1
  | cons s ss ih => cases os with
    | nil => cases h2
    | cons o os => cases k with
      | zero => cases h1; cases h2; exact (allOk_and h).1
      | succ k => exact ih (k := k) (allOk_and h).2 h1 h2
noncomputable def decO (s : List Nat) : AV → List Nat
  | .tup l => if (s == ROWS) = true then joinT [32] (l.map decRow) else regsT (l.map fun | .int i => i.toNat | _ => 0)
  | .int k => operT s (.num k.toNat)
  | _ => []
theorem decO_enc {s : List Nat} {o : Opd} (h : opdOk s o = true) : decO s (encO o) = operT s o := by
  cases o with
  | nums l =>
    unfold opdOk at h; rw [Bool.and_eq_true] at h
    obtain rfl := eq_of_beq h.1
    show regsT ((l.map encN).map _) = regsT l
    rw [List.map_map]
    have : (l.map ((fun | AV.int i => i.toNat | _ => 0) ∘ encN)) = l := by
      conv => rhs; rw [← List.map_id l]
      exact List.map_congr_left fun a _ => rfl
    rw [this]
  | rows l =>
    unfold opdOk at h; rw [Bool.and_eq_true] at h
    obtain rfl := eq_of_beq h.1
    show joinT [32] ((l.map encRow).map decRow) = joinT [32] (l.map rowT)
    rw [List.map_map]
    have : (l.map (decRow ∘ encRow)) = l.map rowT := List.map_congr_left fun a _ => decRow_enc a
    rw [this]
  | num k => rfl
noncomputable def gOp : AV → Option AV
  | .tup [.str s, v] => some (.str (decO s v))
  | _ => none
theorem gOp_all : ∀ {ss : List (List Nat)} {os : List Opd}, allOk ss os = true → (pairs2 (ss.map .str) (os.map encO)).filterMap gOp = (List.zipWith operT ss os).map .str
  | [], [], _ => rfl
  | s :: ss, o :: os, h => by
    unfold allOk at h; rw [Bool.and_eq_true] at h
    show (AV.tup [.str s, encO o] :: pairs2 (ss.map .str) (os.map encO)).filterMap gOp = .str (operT s o) :: (List.zipWith operT ss os).map .str
    rw [List.filterMap_cons, gOp_all h.2]
    show (AV.str (decO s (encO o)) :: _) = _
    rw [decO_enc h.1]
theorem sum_ops : ∀ {ss : List (List Nat)} {os : List Opd}, allOk ss os = true → ((List.zipWith operT ss os).map List.length).sum ≤ ss.length * 5000
  | [], [], _ => Nat.zero_le _
  | s :: ss, o :: os, h => by
    unfold allOk at h; rw [Bool.and_eq_true] at h
    have h1 := operT_len h.1
    have h2 := sum_ops h.2
    rw [List.zipWith_cons_cons, List.map_cons, List.sum_cons, List.length_cons, Nat.add_mul]; lia
theorem words_len : (operandsD.all fun p => Nat.ble p.1.length 20) = true := by decide +kernel
theorem lookup_key {β : Type} {p : List Nat → Bool} {k : List Nat} {v : β} : ∀ {l : List (List Nat × β)}, (l.all fun x => p x.1) = true → l.lookup k = some v → p k = true
  | [], _, h => by cases h
  | (a, b) :: l, h1, h2 => by
    rw [List.all_cons, Bool.and_eq_true] at h1
    rw [List.lookup_cons] at h2
    split at h2
    · rename_i h; rw [eq_of_beq h]; exact h1.1
    · exact lookup_key h1.2 h2
section
variable {W : Wd} {Γ : Fc} {n : Nat} {m : Loc} {S : Store} {X : Int → Prop} {Q : AV → Store → Prop} {nA : Addr}
theorem instr_text_ok {i : Ins} (hW : W.Ok) (hI : W.Is) (hn : S nA = some (.lst (nmL.map .str))) (hv : insTOk i = true) (q : Q (.str (insT i)) S) : WK W Γ 4 (.ref f_instruction_text) [.tup (encI i), .ref nA] m S Q X := by
  refine n_enterC (fn_instruction_text hW hI) nm_instruction_text rfl (m0 := [some (.tup (encI i)), none]) (cv := some (.ref nA)) (fun j x av h1 h2 => ?_) ⟨1, by kernel_rfl, rfl⟩ fun Γ' c hF hc => ?_
  · match j, h1, h2 with
    | 0, h1, h2 => cases h1; cases h2; exact ⟨0, by kernel_rfl, rfl⟩
    | 1, h1, h2 => cases h2
    | j + 2, h1, h2 => cases h2
  unfold insTOk at hv
  unfold insT at q
  cases e : operandsD.lookup i.w with
  | none => rw [e] at hv; cases hv
  | some ss =>
  rw [e] at hv q
  replace hv : allOk ss i.o = true := hv
  have hl := allOk_len hv
  have hs3 := (sorts_at e).2
  have hw : i.w.length ≤ 20 := Nat.le_of_ble_eq_true (lookup_key (p := fun w => Nat.ble w.length 20) words_len e)
  have lk : ([(a_names, c)] : List (Str × Addr)).lookup a_names = some c := by kernel_rfl
  have hnc : nA ≠ c := by rintro rfl; rw [hc] at hn; cases hn
  refine s_cons (s_map (i := 1) (hF.ns ▸ ?ix) (cl := [(a_names, c)]) (by rw [ev_cells hF]; kernel_rfl) (by rw [← Fc.ev_env hF.blk, ev_scope hF]; kernel_rfl) ?_ hF.blk)
  case ix => walk_at "ix"
  walk_at "ws"
  refine WF.le (pairs_ok hW hI e (by rw [List.length_map]; exact hl) fun b hb => ?_).toF (by lia)
  have hbc : b ≠ c := by rintro rfl; rw [upd_same] at hb; cases hb
  have hbS := hb
  rw [upd_ne hbc] at hbS
  have hbn : nA ≠ b := by rintro rfl; rw [hn] at hbS; cases hbS
  refine ⟨pairs2 (ss.map .str) (i.o.map encO), _, _, src_lst (upd_same _ _ _) (.tup _ _ _ _ fun av hav => ?_), by unfold pairs2; rw [List.length_zipWith, List.length_map]; lia, gOp, ?_, ?_⟩
  · obtain ⟨k, hk⟩ := List.mem_iff_getElem?.mp hav
    obtain ⟨s, v, _, _, rfl⟩ := pairs2_get hk
    exact ⟨_, rfl⟩
  · intro k av C D acc hk hCD hC hD
    obtain ⟨s, v, h1, h2, rfl⟩ := pairs2_get hk
    rw [List.getElem?_map, Option.map_eq_some_iff] at h2
    obtain ⟨o, h2, rfl⟩ := h2
    have ho := allOk_at hv h1 h2
    have keepS : ∀ {x y ff}, x ≠ b → upd S c (.cell (some (.ref nA))) x = some y → upd (upd (del (upd (upd S c (.cell (some (.ref nA)))) b (.lst (pairs2 (ss.map .str) (i.o.map encO)))) b) D (.lst acc)) C (.ns ff) x = some y := by
      intro x y ff hx e
      have hx2 : del (upd (upd S c (.cell (some (.ref nA)))) b (.lst (pairs2 (ss.map .str) (i.o.map encO)))) b x = some y := by unfold del; rw [if_neg hx, upd_ne hx]; exact e
      have h1 : x ≠ C := by rintro rfl; rw [hC] at hx2; cases hx2
      have h2 : x ≠ D := by rintro rfl; rw [hD] at hx2; cases hx2
      rw [upd_ne h1, upd_ne h2]; exact hx2
    refine w_tup (as_cons (to_blk hF (upd_same _ _ _) (by simp) (as_cons (to_blk hF (upd_same _ _ _) (by show a_operand ∉ [a_sort]; decide +kernel) (as_nil ?_)))))
    rw [upd_upd, upd_upd]
    refine ⟨rfl, _, rfl, .none _ ⟨rfl, rfl, fun _ => ?_⟩⟩
    refine call_blk hF (gl_operand_text hI) (kp_operand_text hI) rfl (ns_cons rfl (name_blk hF (upd_same _ _ _) (.tail _ (.head _)) (ns_cons rfl (name_blk hF (upd_same _ _ _) (.head _) (ns_cons rfl (free_blk hF (c := c) lk (keepS hbc.symm (upd_same _ _ _)) (es_nil ?_)))))))
    refine (oper_text_ok hW hI (keepS hbn (by rw [upd_ne hnc]; exact hn)) ho ?_).toF
    exact ⟨by show some (AV.str (decO s (encO o))) = _; rw [decO_enc ho], Subs.refl _⟩
  · intro D hD hfin
    rw [gOp_all hv] at hfin ⊢
    have hS : Subs S (upd (upd (del (upd (upd S c (.cell (some (.ref nA)))) b (.lst (pairs2 (ss.map .str) (i.o.map encO)))) b) D (.lst ((List.zipWith operT ss i.o).map .str))) b (.lst (pairs2 (ss.map .str) (i.o.map encO)))) := by
      intro x y h
      have h1 : x ≠ b := by rintro rfl; rw [hbS] at h; cases h
      have h2 : x ≠ c := by rintro rfl; rw [hc] at h; cases h
      have hx2 : del (upd (upd S c (.cell (some (.ref nA)))) b (.lst (pairs2 (ss.map .str) (i.o.map encO)))) b x = some y := by unfold del; rw [if_neg h1, upd_ne h1, upd_ne h2]; exact h
      have h3 : x ≠ D := by rintro rfl; rw [hD] at hx2; cases hx2
      rw [upd_ne h1, upd_ne h3]; exact hx2
    have hDD := hfin D _ (upd_same _ _ _)
    revert hS hDD
    generalize (upd (upd (del (upd (upd S c (.cell (some (.ref nA)))) b (.lst (pairs2 (ss.map .str) (i.o.map encO)))) b) D (.lst ((List.zipWith operT ss i.o).map .str))) b (.lst (pairs2 (ss.map .str) (i.o.map encO)))) = S5
    intro hS hDD
    refine ⟨S5, Subs.refl _, ?_⟩
    have h4 := sum_ops hv
    have h5 : (List.zipWith operT ss i.o).length ≤ 3 := by rw [List.length_zipWith]; lia
    walk_at "ws"
    refine n_join at_join rfl rfl (fun _ => rfl) ?_
    walk_at "ws"
    refine ⟨_, rfl, ?_⟩
    walk_at "ws"
    refine e_list (ns_cons rfl ?_)
    walk_at "ws"
    refine i_tup (av := .str i.w) (i := 0) rfl ?_ (by show (i.o.map encO).length + 1 ≤ _; rw [List.length_map]; lia)
    refine es_nil ⟨by show 1 ≤ 10000; decide, fun l2 hl2 => ?_⟩
    have hlD : D ≠ l2 := by rintro rfl; rw [hDD] at hl2; cases hl2
    walk_at "ws"
    refine b_addl (upd_same _ _ _) (by rw [upd_ne hlD]; exact hDD) (fun l3 hl3 => ?_) (by rw [List.length_map]; simp only [List.length_cons, List.length_nil]; lia)
    refine ⟨l3, i.w :: List.zipWith operT ss i.o, rfl, by rw [upd_same]; rfl, by rw [List.map_cons, List.sum_cons, List.length_cons]; simp only [List.length_cons, List.length_nil]; lia, S, ?_, q⟩
    intro x y h
    have h1 := hS x y h
    have h2 : x ≠ l2 := by rintro rfl; rw [hl2] at h1; cases h1
    have h3 : x ≠ l3 := by rintro rfl; rw [upd_ne h2, h1] at hl3; cases hl3
    rw [upd_ne h3, upd_ne h2]; exact h1
end
end
section
open PySem PySem.W PySem.Calls PyProof.Rows PySem.NumText
structure PP (S : Store) (p dp b : Addr) (num : Nat) (ic : Bool) (is : List Ins) : Prop where
  inst : S p = some (.inst C_Procedure dp)
  flds : S dp = some (.flds (procF (encN num) (.str [97]) (encN (1 + num)) (.bool false) (.bool ic) (encN 9) (encN 2) (.ref b)))
  ins : S b = some (.lst ((is.map encI).map .tup))
theorem PP.mono {S S' : Store} {p dp b : Addr} {num : Nat} {ic : Bool} {is : List Ins} (h : PP S p dp b num ic is) (k : Subs S S') : PP S' p dp b num ic is := ⟨k _ _ h.inst, k _ _ h.flds, k _ _ h.ins⟩
theorem PP.fld {S : Store} {p dp b : Addr} {num : Nat} {ic : Bool} {is : List Ins} (h : PP S p dp b num ic is) {W : Wd} {x : Str} {w : AV} (ok : okGet W.K C_Procedure x = true) (e : fget x (procF (encN num) (.str [97]) (encN (1 + num)) (.bool false) (.bool ic) (encN 9) (encN 2) (.ref b)) = some w) {P : AV → Store → Prop} (q : P w S) :
    KAtt W x P (.ref p) S := ⟨p, _, dp, _, w, rfl, h.inst, h.flds, e, ok, q⟩
theorem PP.a_number {S : Store} {p dp b : Addr} {num : Nat} {ic : Bool} {is : List Ins} {W : Wd} (h : PP S p dp b num ic is) (hI : W.Is) {P : AV → Store → Prop} (q : P (encN num) S) : KAtt W a_number P (.ref p) S :=
  h.fld (ga_Procedure_number hI) (by kernel_rfl) q
theorem PP.a_title {S : Store} {p dp b : Addr} {num : Nat} {ic : Bool} {is : List Ins} {W : Wd} (h : PP S p dp b num ic is) (hI : W.Is) {P : AV → Store → Prop} (q : P (.str [97]) S) : KAtt W a_title P (.ref p) S :=
  h.fld (ga_Procedure_title hI) (by kernel_rfl) q
theorem PP.a_needed {S : Store} {p dp b : Addr} {num : Nat} {ic : Bool} {is : List Ins} {W : Wd} (h : PP S p dp b num ic is) (hI : W.Is) {P : AV → Store → Prop} (q : P (encN (1 + num)) S) : KAtt W a_needed P (.ref p) S :=
  h.fld (ga_Procedure_needed hI) (by kernel_rfl) q
theorem PP.a_has_rest {S : Store} {p dp b : Addr} {num : Nat} {ic : Bool} {is : List Ins} {W : Wd} (h : PP S p dp b num ic is) (hI : W.Is) {P : AV → Store → Prop} (q : P (.bool false) S) : KAtt W a_has_rest P (.ref p) S :=
  h.fld (ga_Procedure_has_rest hI) (by kernel_rfl) q
theorem PP.a_is_continuation {S : Store} {p dp b : Addr} {num : Nat} {ic : Bool} {is : List Ins} {W : Wd} (h : PP S p dp b num ic is) (hI : W.Is) {P : AV → Store → Prop} (q : P (.bool ic) S) : KAtt W a_is_continuation P (.ref p) S :=
  h.fld (ga_Procedure_is_continuation hI) (by kernel_rfl) q
theorem PP.a_registers {S : Store} {p dp b : Addr} {num : Nat} {ic : Bool} {is : List Ins} {W : Wd} (h : PP S p dp b num ic is) (hI : W.Is) {P : AV → Store → Prop} (q : P (encN 9) S) : KAtt W a_registers P (.ref p) S :=
  h.fld (ga_Procedure_registers hI) (by kernel_rfl) q
theorem PP.a_free {S : Store} {p dp b : Addr} {num : Nat} {ic : Bool} {is : List Ins} {W : Wd} (h : PP S p dp b num ic is) (hI : W.Is) {P : AV → Store → Prop} (q : P (encN 2) S) : KAtt W a_free P (.ref p) S :=
  h.fld (ga_Procedure_free hI) (by kernel_rfl) q
theorem PP.a_instructions {S : Store} {p dp b : Addr} {num : Nat} {ic : Bool} {is : List Ins} {W : Wd} (h : PP S p dp b num ic is) (hI : W.Is) {P : AV → Store → Prop} (q : P (.ref b) S) : KAtt W a_instructions P (.ref p) S :=
  h.fld (ga_Procedure_instructions hI) (by kernel_rfl) q
noncomputable def headW (num : Nat) (ic : Bool) : List (List Nat) := ((([[112, 114, 111, 99, 101, 100, 117, 114, 101], [48 + num], [110, 101, 101, 100, 101, 100], [48 + (1 + num)]] ++ []) ++ (if ic = true then [[99, 111, 110, 116, 105, 110, 117, 97, 116, 105, 111, 110]] else [])) ++ [[114, 101, 103, 105, 115, 116, 101, 114, 115], [48 + 9], [102, 114, 101, 101], [48 + 2]]) ++ [[116, 105, 116, 108, 101], [48 + 1], [97]]
noncomputable def headT (num : Nat) (ic : Bool) : List Nat := joinT [32] (headW num ic)
theorem headW_len (num : Nat) (ic : Bool) : ((headW num ic).map List.length).sum + (headW num ic).length * 1 ≤ 1000 := by cases ic <;> exact Nat.le_of_ble_eq_true rfl
theorem rds_int (S : Store) : ∀ l : List Int, RDs S (l.map AV.int) (l.map Dat.int)
  | [] => .nil
  | _ :: l => .cons _ _ _ _ (.int _) (rds_int S l)
theorem int_mem {k : Int} {l : List Int} : Dat.int k ∈ l.map Dat.int ↔ k ∈ l := by
  rw [List.mem_map]
  exact ⟨fun ⟨a, h, e⟩ => by cases e; exact h, fun h => ⟨k, h, rfl⟩⟩
theorem int_ok (l : List Int) : ∀ d ∈ l.map Dat.int, kqdOk 8 d = true := by
  intro d h
  obtain ⟨k, _, rfl⟩ := List.mem_map.mp h
  rfl
noncomputable def aheadT (labs : List Int) (k : Nat) : List Nat := if decide ((k : Int) ∈ labs) = true then [] ++ [76] ++ [48 + k] ++ [32] else [32, 32, 32]
noncomputable def bodyT (labs : List Int) : Nat → List Ins → List (List Nat)
  | _, [] => []
  | k, i :: is => (aheadT labs k ++ insT i) :: bodyT labs (k + 1) is
noncomputable def linesT (num : Nat) (ic : Bool) (is : List Ins) : List (List Nat) := [headT num ic] ++ bodyT (labsOf (is.map encI)) 0 is ++ [[101, 110, 100]]
theorem bodyT_snoc (labs : List Int) (i : Ins) : ∀ (is : List Ins) (k : Nat), bodyT labs k (is ++ [i]) = bodyT labs k is ++ [aheadT labs (k + is.length) ++ insT i]
  | [], k => rfl
  | j :: is, k => by
    show _ :: bodyT labs (k + 1) (is ++ [i]) = _ :: (bodyT labs (k + 1) is ++ _)
    rw [bodyT_snoc labs i is (k + 1), List.length_cons, show k + 1 + is.length = k + (is.length + 1) by lia]
theorem bodyT_len (labs : List Int) : ∀ (is : List Ins) (k : Nat), (bodyT labs k is).length = is.length
  | [], _ => rfl
  | _ :: is, k => by unfold bodyT; rw [List.length_cons, List.length_cons, bodyT_len labs is]
noncomputable def isOk (is : List Ins) : Bool := (is.all fun i => insTOk i && insOk (encI i) && Nat.ble (insT i).length 1000) && Nat.ble is.length 10
theorem isOk_at {is : List Ins} (h : isOk is = true) {i : Ins} (hi : i ∈ is) : insTOk i = true ∧ insOk (encI i) = true ∧ (insT i).length ≤ 1000 := by
  unfold isOk at h
  rw [Bool.and_eq_true, List.all_eq_true] at h
  have := h.1 i hi
  rw [Bool.and_eq_true, Bool.and_eq_true] at this
  exact ⟨this.1.1, this.1.2, Nat.le_of_ble_eq_true this.2⟩
theorem isOk_len {is : List Ins} (h : isOk is = true) : is.length ≤ 10 := by
  unfold isOk at h
  rw [Bool.and_eq_true] at h
  exact Nat.le_of_ble_eq_true h.2
section
variable {W : Wd} {Γ : Fc} {n : Nat} {m : Loc} {S : Store} {X : Int → Prop} {Q : AV → Store → Prop} {p dp b nA : Addr} {num : Nat} {ic : Bool} {is : List Ins}
theorem lines_ok (hW : W.Ok) (hI : W.Is) (R : PP S p dp b num ic is) (hn : S nA = some (.lst (nmL.map .str))) (hk : num < 9) (hi : isOk is = true)
    (q : ∀ l S', S l = none → Subs S S' → S' l = some (.lst ((linesT num ic is).map .str)) → Q (.ref l) S') : WK W Γ 5 (.ref f_procedure_lines) [.ref p, .ref nA] m S Q X := by
  refine n_enter (fn_procedure_lines hW hI) nm_procedure_lines rfl fun Γ' hF => ?_
  refine s_cons ?_
  walk_at "ws"
  refine e_listS ?_
  walk_at "ws"
  refine R.a_number hI ?_
  walk_at "ws"
  refine f_str (by lia) ?_
  walk_at "ws"
  refine R.a_needed hI ?_
  walk_at "ws"
  refine f_str (by lia) ?_
  walk_at "ws"
  refine ⟨by show 4 ≤ 10000; decide, fun l1 S1 _ s1 e1 => ?_⟩
  walk_at "ws"
  refine (R.mono s1).a_has_rest hI ⟨_, rfl, if_f ?_⟩
  refine e_listS (es_nil ⟨by decide, fun l2 S2 _ s2 e2 => ?_⟩)
  refine b_addlS (s2 _ _ e1) e2 (by show 4 + 0 ≤ 10000; decide) fun l3 S3 _ s3 e3 => ?_
  replace s3 := (s1.trans s2).trans s3
  refine WE.mono (Q := fun v S' => ∃ l, v = .ref l ∧ S' l = some (.lst ((if ic = true then [[99, 111, 110, 116, 105, 110, 117, 97, 116, 105, 111, 110]] else []).map .str)) ∧ Subs S3 S') ?h1 ?h2
  case h1 =>
    refine e_if ?_
    walk_at "ws"
    refine (R.mono s3).a_is_continuation hI ⟨ic, rfl, ite_b (fun h => ?_) fun h => ?_⟩
    · refine e_listS ?_
      walk_at "ws"
      exact ⟨by show 1 ≤ 10000; decide, fun l4 S4 _ s4 e4 => ⟨l4, rfl, by rw [e4, if_pos h]; rfl, s4⟩⟩
    · exact e_listS (es_nil ⟨by decide, fun l4 S4 _ s4 e4 => ⟨l4, rfl, by rw [e4, if_neg (by rw [h]; decide)]; rfl, s4⟩⟩)
  case h2 =>
  rintro _ S4 ⟨l4, rfl, e4, s4⟩
  have hz4 : ((if ic = true then [[99, 111, 110, 116, 105, 110, 117, 97, 116, 105, 111, 110]] else []).map AV.str).length ≤ 1 := by cases ic <;> decide
  refine b_addlS (s4 _ _ e3) e4 (by show 4 + _ ≤ 10000; lia) fun l5 S5 _ s5 e5 => ?_
  replace s5 := (s3.trans s4).trans s5
  walk_at "ws"
  refine e_listS ?_
  walk_at "ws"
  refine (R.mono s5).a_registers hI ?_
  walk_at "ws"
  refine f_str (by decide) ?_
  walk_at "ws"
  refine (R.mono s5).a_free hI ?_
  walk_at "ws"
  refine f_str (by decide) ?_
  walk_at "ws"
  refine ⟨by show 4 ≤ 10000; decide, fun l6 S6 _ s6 e6 => ?_⟩
  refine b_addlS (s6 _ _ e5) e6 (by rw [List.length_append]; show 4 + _ + 4 ≤ 10000; lia) fun l7 S7 _ s7 e7 => ?_
  replace s7 := (s5.trans s6).trans s7
  walk_at "ws"
  refine e_listS (ns_cons rfl ?_)
  refine n_join at_join rfl rfl (fun _ => rfl) ?_
  walk_at "ws"
  refine ⟨_, rfl, ?_⟩
  walk_at "ws"
  refine e_listS ?_
  walk_at "ws"
  refine (R.mono s7).a_title hI ?_
  walk_at "ws"
  refine f_len_str ?_
  walk_at "ws"
  refine f_str (k := 1) (by decide) ?_
  walk_at "ws"
  refine (R.mono s7).a_title hI ?_
  walk_at "ws"
  refine ⟨by show 3 ≤ 10000; decide, fun l8 S8 _ s8 e8 => ?_⟩
  refine b_addlS (s8 _ _ e7) e8 (by rw [List.length_append, List.length_append]; show 4 + _ + 4 + 3 ≤ 10000; lia) fun l9 S9 _ s9 e9 => ?_
  replace s9 := (s7.trans s8).trans s9
  refine ⟨l9, headW num ic, rfl, by rw [e9]; unfold headW; simp only [List.map_append]; rfl, Nat.le_trans (headW_len num ic) (by decide), ?_⟩
  refine es_nil ⟨by show 1 ≤ 10000; decide, fun f S10 hf s10 ef => ?_⟩
  replace s10 := s9.trans s10
  have hfS : S f = none := by
    cases e : S f with
    | none => rfl
    | some z => rw [s9 _ _ e] at hf; cases hf
  have hfb : f ≠ b := by rintro rfl; rw [R.ins] at hfS; cases hfS
  walk_at "ws"
  refine (R.mono s10).a_instructions hI ?_
  walk_at "ws"
  refine WF.le (labs_met_ok hW hI (R.mono s10).ins (fun i h => ?_) fun la hla => ?_).toF (by lia)
  · obtain ⟨j, hj, rfl⟩ := List.mem_map.mp h
    exact (isOk_at hi hj).2.1
  have s11 := s10.new (y := .lst ((labsOf (is.map encI)).map .int)) hla
  have el := upd_same S10 la (.lst ((labsOf (is.map encI)).map .int))
  have hfl : f ≠ la := by rintro rfl; rw [ef] at hla; cases hla
  have hbl : la ≠ b := by rintro rfl; rw [(R.mono s10).ins] at hla; cases hla
  walk_at "ws"
  refine (R.mono s11).a_instructions hI ?_
  walk_at "ws"
  apply f_enum (R.mono s11).ins
  intro e S12 src
  refine ⟨_, _, _, src, fun k m1 S2 => (∃ o1 o2 o3, m1 = [some (.ref p), some (.ref nA), some (.ref l7), some (.ref f), some (.ref la), o1, o2, o3]) ∧ S2 f = some (.lst (([headT num ic] ++ bodyT (labsOf (is.map encI)) 0 (is.take k)).map .str)) ∧ S2 la = some (.lst ((labsOf (is.map encI)).map .int)) ∧ Subs (del S b) S2, ⟨⟨_, _, _, rfl⟩, ?_, ?_, ?_⟩, ?_, ?_⟩
  · unfold del; rw [if_neg hfb, upd_ne hfl]; exact ef
  · unfold del; rw [if_neg hbl]; exact el
  · intro x y h
    unfold del at h ⊢
    split at h
    · cases h
    · rename_i hx; rw [if_neg hx]; exact s11 x y h
  · rintro k av m1 S2 hk ⟨⟨o1, o2, o3, rfl⟩, h1, h2, h3⟩
    obtain ⟨a0, h0, rfl⟩ := enum_get hk
    rw [List.getElem?_map, Option.map_eq_some_iff] at h0
    obtain ⟨a1, h0, rfl⟩ := h0
    rw [List.getElem?_map, Option.map_eq_some_iff] at h0
    obtain ⟨i, h0, rfl⟩ := h0
    have hlen := isOk_len hi
    have hkl : k < is.length := (List.getElem?_eq_some_iff.mp h0).1
    obtain ⟨hi1, _, hi3⟩ := isOk_at hi (List.mem_of_getElem? h0)
    have hnb : nA ≠ b := by
      rintro rfl
      have := R.ins
      rw [hn] at this
      revert this hkl
      cases is with
      | nil => intro h; cases h
      | cons i is => intro _ h; cases h
    refine w_tup (as_cons (nw_name hF (i := 5) ?ix1 (as_cons (nw_name hF (i := 6) ?ix2 (as_nil ?_)))))
    case ix1 => walk_at "ix"
    case ix2 => walk_at "ix"
    refine s_cons (n_assign (i := 7) hF ?ix3 rfl (WE.mono (Q := fun v S' => v = .str (aheadT (labsOf (is.map encI)) k) ∧ S' = S2) ?h1 ?h2))
    case ix3 => walk_at "ix"
    case h1 =>
      unfold aheadT
      walk_at "ws"
      refine c_inl h2 (rds_int _ _) (.int _) (int_ok _) rfl fun c hc => ?_
      rw [int_mem] at hc
      refine ⟨c, rfl, ite_b (fun h => ?_) fun h => ?_⟩
      · rw [if_pos (decide_eq_true (hc.mp h))]
        refine e_fstr (e_str tx_a_L ⟨_, rfl, by show 1 ≤ 1000; decide, e_fvi ?_⟩)
        walk_at "ws"
        exact ⟨k, rfl, by lia, _, rfl, by show 2 ≤ 1000; decide, e_str tx_t_4 ⟨_, rfl, by show 3 ≤ 1000; decide, rfl, rfl⟩⟩
      · rw [if_neg (fun e => by rw [hc.mpr (of_decide_eq_true e)] at h; cases h)]
        walk_at "ws"
        exact ⟨rfl, rfl⟩
    case h2 =>
    rintro _ _ ⟨rfl, rfl⟩
    walk_at "ws"
    refine ⟨f, _, rfl, h1, ?_⟩
    walk_at "ws"
    refine (instr_text_ok hW hI (h3 _ _ (by unfold del; rw [if_neg hnb]; exact hn)) hi1 ?_).toF
    have hah : (aheadT (labsOf (is.map encI)) k).length ≤ 10 := by unfold aheadT; split <;> (show (3 : Nat) ≤ 10; decide)
    refine b_adds ?_ (by lia)
    refine ⟨_, h1, by rw [List.length_map, List.length_append, bodyT_len, List.length_take]; show 1 + _ ≤ _; lia, ?_⟩
    walk_at "ws"
    refine ⟨⟨_, _, _, rfl⟩, ?_, by rw [upd_ne hfl.symm]; exact h2, h3.new0 (by unfold del; rw [if_neg hfb]; exact hfS)⟩
    rw [upd_same, show is.take (k + 1) = is.take k ++ [i] by rw [List.take_add_one, h0]; rfl, bodyT_snoc, List.length_take, Nat.min_eq_left (Nat.le_of_lt hkl), Nat.zero_add, ← List.append_assoc, List.map_append (l₂ := [_])]
    rfl
  · rintro m1 S2 ⟨⟨o1, o2, o3, rfl⟩, h1, h2, h3⟩
    have hle : (enumAV ((is.map encI).map AV.tup)).length = is.length := by rw [enum_len, List.length_map, List.length_map]
    rw [hle, List.take_length] at h1
    have sB : Subs S (upd S2 b (.lst ((is.map encI).map .tup))) := fun x y h => by
      by_cases hx : x = b
      · subst hx; rw [R.ins] at h; cases h; exact upd_same _ _ _
      · rw [upd_ne hx]; exact h3 x y (by unfold del; rw [if_neg hx]; exact h)
    have hlen := isOk_len hi
    walk_at "ws"
    refine e_listS ?_
    walk_at "ws"
    refine ⟨by show 1 ≤ 10000; decide, fun l13 S13 _ s13 e13 => ?_⟩
    refine b_addlS (s13 _ _ (by rw [upd_ne hfb]; exact h1)) e13 (by rw [List.length_map, List.length_append, bodyT_len]; show 1 + _ + 1 ≤ _; lia) fun l14 S14 hl14 s14 e14 => ?_
    refine ret_now (q l14 S14 ?_ ((sB.trans s13).trans s14) (by rw [e14]; unfold linesT; simp only [List.map_append]; rfl))
    cases e : S l14 with
    | none => rfl
    | some z => rw [(sB.trans s13) _ _ e] at hl14; cases hl14
end
end
section
open PySem PySem.W PySem.Calls PyProof.Rows PySem.NumText
structure Pr where
  num : Nat
  ic : Bool
  is : List Ins
noncomputable def prOk (pr : Pr) : Bool := Nat.blt pr.num 9 && isOk pr.is
inductive PPs (S : Store) : List AV → List Pr → Prop
  | nil : PPs S [] []
  | cons (p dp b : Addr) (pr : Pr) (avs : List AV) (prs : List Pr) : PP S p dp b pr.num pr.ic pr.is → PPs S avs prs → PPs S (.ref p :: avs) (pr :: prs)
theorem PPs.get {S : Store} {avs : List AV} {prs : List Pr} {k : Nat} {av : AV} (h : PPs S avs prs) (e : avs[k]? = some av) : ∃ p dp b pr, av = .ref p ∧ prs[k]? = some pr ∧ PP S p dp b pr.num pr.ic pr.is := by
  induction h generalizing k with
  | nil => cases e
  | cons p dp b pr avs prs h r ih => cases k with
  | zero => exact ⟨p, dp, b, pr, (Option.some.inj e).symm, rfl, h⟩
  | succ k => exact ih (k := k) e
theorem PPs.len {S : Store} {avs : List AV} {prs : List Pr} (h : PPs S avs prs) : avs.length = prs.length :=
  PPs.rec (motive := fun avs prs _ => avs.length = prs.length) rfl (fun _ _ _ _ _ _ _ _ e => congrArg (· + 1) e) h
theorem PPs.map {S S' : Store} (k : ∀ (p dp b : Addr) (pr : Pr), PP S p dp b pr.num pr.ic pr.is → PP S' p dp b pr.num pr.ic pr.is) {avs : List AV} {prs : List Pr} (h : PPs S avs prs) : PPs S' avs prs :=
  PPs.rec (motive := fun avs prs _ => PPs S' avs prs) .nil (fun _ _ _ _ _ _ h _ r => .cons _ _ _ _ _ _ (k _ _ _ _ h) r) h
theorem PPs.mono {S S' : Store} (k : Subs S S') {avs : List AV} {prs : List Pr} (h : PPs S avs prs) : PPs S' avs prs := h.map fun _ _ _ _ h => h.mono k
theorem PPs.snoc {S : Store} {p dp b : Addr} {pr : Pr} (h : PP S p dp b pr.num pr.ic pr.is) {avs : List AV} {prs : List Pr} (x : PPs S avs prs) : PPs S (avs ++ [.ref p]) (prs ++ [pr]) :=
  PPs.rec (motive := fun avs prs _ => PPs S (avs ++ [.ref p]) (prs ++ [pr])) (.cons _ _ _ _ _ _ h .nil) (fun _ _ _ _ _ _ q _ r => .cons _ _ _ _ _ _ q r) x
noncomputable def linesA (prs : List Pr) : List (List Nat) := prs.flatMap fun pr => linesT pr.num pr.ic pr.is
noncomputable def textA (prs : List Pr) : List Nat := joinT [] ((linesA prs).map (· ++ [10]))
theorem linesT_len (num : Nat) (ic : Bool) (is : List Ins) : (linesT num ic is).length = is.length + 2 := by
  unfold linesT; rw [List.length_append, List.length_append, bodyT_len]; simp only [List.length_cons, List.length_nil]; lia
theorem linesA_len : ∀ {prs : List Pr}, (∀ pr ∈ prs, prOk pr = true) → (linesA prs).length ≤ prs.length * 12
  | [], _ => Nat.zero_le _
  | pr :: prs, h => by
    have h1 := h pr (.head _)
    have h2 := linesA_len fun q hq => h q (.tail _ hq)
    unfold prOk at h1; rw [Bool.and_eq_true] at h1
    have h3 := isOk_len h1.2
    unfold linesA at h2 ⊢
    rw [List.flatMap_cons, List.length_append, linesT_len, List.length_cons, Nat.add_mul]; lia
theorem le_sum : ∀ {l : List Nat} {a : Nat}, a ∈ l → a ≤ l.sum
  | b :: l, _, .head _ => by rw [List.sum_cons]; lia
  | b :: l, a, .tail _ h => by rw [List.sum_cons]; have := le_sum h; lia
noncomputable def gNl : AV → Option AV
  | .str w => some (.str (w ++ [10]))
  | _ => none
section
variable {W : Wd} {Γ : Fc} {n : Nat} {m : Loc} {S : Store} {X : Int → Prop} {Q : AV → Store → Prop} {pl nA : Addr} {avs : List AV} {prs : List Pr}
theorem sl_extend : Slot "list" a_extend "list.extend" := by
  have e : Str.ofString "extend" = a_extend := by kernel_rfl
  rw [← e]; exact F.slot_list_extend
theorem n_extend {y : Str} {p apos pos : Pos} {e : Expr} (h1 : noStar e = true) (h3 : (apos.endLine == pos.line) = true)
    (h : WE W Γ n (.Name y p) m S (fun v S1 => ∃ l as, v = .ref l ∧ S1 l = some (.lst as) ∧ WE W Γ n e m S1 (fun x S2 => ∃ l2 as bs, x = .ref l2 ∧ S2 l = some (.lst as) ∧ S2 l2 = some (.lst bs) ∧ bs ≠ [] ∧ as.length + bs.length ≤ 10000 ∧ Q .none (upd S2 l (.lst (as ++ bs)))) X) X) : WE W Γ n (.Call (.Attribute (.Name y p) a_extend apos) [e] [] pos) m S Q X := by
  refine n_bmeth (by unfold plainArgs; rw [List.all_cons, h1]; rfl) rfl h3 (fun _ => rfl) (h.mono ?_)
  rintro v S1 ⟨l, as, rfl, e1, q⟩
  refine ⟨_, bm_lst e1 sl_extend rfl, ns_cons h1 (q.mono ?_)⟩
  rintro x S2 ⟨l2, as2, bs, rfl, e2, e3, hb, hz, q⟩
  exact es_nil (f_extend e2 e3 hb q hz)
theorem code_text_ok (hW : W.Ok) (hI : W.Is) (e : S pl = some (.lst avs)) (hp : PPs S avs prs) (hn : S nA = some (.lst (nmL.map .str))) (hk : ∀ pr ∈ prs, prOk pr = true) (hz : prs.length ≤ 10)
    (hs : (((linesA prs).map (· ++ [10])).map List.length).sum ≤ 10000)
    (q : Q (.str (textA prs)) S) : WK W Γ 6 (.ref f_code_text) [.ref pl, .ref nA] m S Q X := by
  refine n_enter (fn_code_text hW hI) nm_code_text rfl fun Γ' hF => ?_
  have hzl := linesA_len hk
  refine s_cons ?_
  walk_at "ws"
  refine e_list (es_nil ⟨by decide, fun L hL => ?_⟩)
  have hLp : L ≠ pl := by rintro rfl; rw [e] at hL; cases hL
  walk_at "ws"
  refine ⟨avs, _, _, src_lst (by rw [upd_ne hLp.symm]; exact e) (.name _ _ _), fun k m1 S2 => (∃ o1, m1 = [some (.ref pl), some (.ref nA), some (.ref L), o1]) ∧ S2 L = some (.lst ((linesA (prs.take k)).map .str)) ∧ Subs (del S pl) S2, ⟨⟨_, rfl⟩, ?_, ?_⟩, ?_, ?_⟩
  · unfold del; rw [if_neg hLp, upd_same]; rfl
  · intro x y h
    unfold del at h ⊢
    split at h
    · cases h
    · rename_i hx; rw [if_neg hx, upd_ne (by rintro rfl; rw [hL] at h; cases h)]; exact h
  · rintro k av m1 S2 hk2 ⟨⟨o1, rfl⟩, h1, h2⟩
    obtain ⟨p, dp, b, pr, rfl, hpr, R⟩ := hp.get hk2
    have hok := hk pr (List.mem_of_getElem? hpr)
    unfold prOk at hok; rw [Bool.and_eq_true] at hok
    have hkl : k < prs.length := (List.getElem?_eq_some_iff.mp hpr).1
    have hb : b ≠ pl := by
      rintro rfl
      have := R.ins
      rw [e] at this
      cases this
      rw [List.getElem?_map, Option.map_eq_some_iff] at hk2
      obtain ⟨_, _, h⟩ := hk2; cases h
    have hnp : nA ≠ pl := by
      rintro rfl
      rw [e] at hn
      cases hn
      rw [List.getElem?_map, Option.map_eq_some_iff] at hk2
      obtain ⟨_, _, h⟩ := hk2; cases h
    have nd : ∀ {x y}, S x = some y → x ≠ pl → S2 x = some y := fun {x y} h hx => h2 x y (by unfold del; rw [if_neg hx]; exact h)
    have R2 : PP S2 p dp b pr.num pr.ic pr.is := ⟨nd R.inst (ne_of R.inst e rfl), nd R.flds (ne_of R.flds e rfl), nd R.ins hb⟩
    refine nw_name hF (i := 3) ?ix1 ?_
    case ix1 => walk_at "ix"
    refine s_cons (n_expr hF rfl rfl (n_extend ?a1 ?a2 ?_))
    case a1 => rfl
    case a2 => rfl
    walk_at "ws"
    refine ⟨L, _, rfl, h1, ?_⟩
    walk_at "ws"
    refine (lines_ok hW hI R2 (nd hn hnp) (Nat.le_of_ble_eq_true hok.1) hok.2 fun l S3 _ s3 e3 => ?_).toF
    have hl2 := linesA_len (prs := prs.take k) fun q hq => hk q (List.mem_of_mem_take hq)
    rw [List.length_take] at hl2
    have hl3 := isOk_len hok.2
    refine ⟨l, _, _, rfl, s3 _ _ h1, e3, by unfold linesT; simp, by rw [List.length_map, List.length_map, linesT_len]; lia, ?_⟩
    walk_at "ws"
    refine ⟨⟨_, rfl⟩, ?_, (h2.trans s3).new0 (by unfold del; rw [if_neg hLp]; exact hL)⟩
    rw [upd_same, ← List.map_append]
    have : linesA (prs.take (k + 1)) = linesA (prs.take k) ++ linesT pr.num pr.ic pr.is := by
      unfold linesA
      rw [List.take_add_one, hpr, List.flatMap_append]
      show _ ++ (linesT pr.num pr.ic pr.is ++ []) = _
      rw [List.append_nil]
    rw [this]
  · rintro m1 S2 ⟨⟨o1, rfl⟩, h1, h2⟩
    rw [hp.len, List.take_length] at h1
    have sB : Subs S (upd S2 pl (.lst avs)) := fun x y h => by
      by_cases hx : x = pl
      · subst hx; rw [e] at h; cases h; exact upd_same _ _ _
      · rw [upd_ne hx]; exact h2 x y (by unfold del; rw [if_neg hx]; exact h)
    have h1 : upd S2 pl (.lst avs) L = some (.lst ((linesA prs).map .str)) := by rw [upd_ne hLp]; exact h1
    revert sB h1
    generalize upd S2 pl (.lst avs) = S3
    intro sB h1
    walk_at "ws"
    refine n_join at_join rfl rfl (fun _ => rfl) ?_
    walk_at "ws"
    refine ⟨_, rfl, ?_⟩
    refine e_map (cl := []) (by kernel_rfl) ?_ hF.blk
    walk_at "ws"
    refine ⟨_, _, _, src_lst h1 (.name _ _ _), by rw [List.length_map]; lia, gNl, ?_, ?_⟩
    · intro k av C D acc hk hCD hC hD
      rw [List.getElem?_map, Option.map_eq_some_iff] at hk
      obtain ⟨w, hw, rfl⟩ := hk
      refine to_blk hF (upd_same _ _ _) (by simp) ?_
      rw [upd_upd]
      refine ⟨rfl, _, rfl, .none _ ⟨rfl, rfl, fun _ => ?_⟩⟩
      refine e_bin (name_blk hF (upd_same _ _ _) (.head _) ?_)
      refine e_str tx_t_10 (b_adds ⟨rfl, Subs.refl _⟩ ?_)
      have : w.length ≤ 10000 := by
        have h3 : (w ++ [10]).length ≤ (((linesA prs).map (· ++ [10])).map List.length).sum := le_sum (List.mem_map.mpr ⟨_, List.mem_map.mpr ⟨w, List.mem_of_getElem? hw, rfl⟩, rfl⟩)
        rw [List.length_append] at h3; lia
      rw [List.length_cons, List.length_nil]; lia
    · intro D hD hfin
      have eg : ((linesA prs).map AV.str).filterMap gNl = ((linesA prs).map (· ++ [10])).map .str := by
        rw [List.map_map]; exact fm_enc fun a _ => rfl
      rw [eg] at hfin ⊢
      refine ⟨_, Subs.refl _, D, _, rfl, hfin D _ (upd_same _ _ _), by rw [List.length_map]; simp only [List.length_nil]; lia, S, ?_, q⟩
      intro x y h
      have h3 := sB x y h
      by_cases hx : x = L
      · subst hx; rw [hL] at h; cases h
      · rw [upd_ne hx]
        have h4 : del S3 L x = some y := by unfold del; rw [if_neg hx]; exact h3
        rw [upd_ne (by rintro rfl; rw [hD] at h4; cases h4)]; exact h4
end
end
section
open Sem (wp)
section
variable {prog : Program} {w : World} {A : Around} {E : Value → Shared → Prop} {h : Heap} {g : Array GenState} {d : Drawn} {t : Nat} {os : OsState}
variable {nm q : Str} {C N a dd0 : Addr} {bs bm : List Value} {sn : List Str} {sub : List Value} {ab : Bool} {col : Option Bool} {dd : Option Addr} {k0 k1 k2 k3 k5 : Option Value} {newId : String} {mN : Str → Option Value} {o od : Obj} {vs : Array Value} {line : Int}
theorem line_entry {tk : Tok} {Q : Fin → Shared → Prop} (FB : ExcAttrBase "Exception" bmE) (hC : h.get? C = some (excClassObj nm q C N bs bmE true sn sub ab col dd k0 k1 k2 k3 k5 newId)) (hN : h.Ns N mN)
    (hl : mN "line" = none) (hx : h.get? a = some o) (hc : o.cls = .ref C) (hd : o.data = .fields vs) (hdi : o.dict = some dd0) (hdd : h.get? dd0 = some od) (hline : LineOf od line)
    (hq : ∀ t', Q (.done (.ret (.int line t'))) ⟨h, g, d, t, os⟩) :
    wpAny (model prog w) A (Builtin.«object.__getattribute__» ⟨[.ref a, .str "line" tk], []⟩) Q E ⟨h, g, d, t, os⟩ := by
  obtain ⟨es, ep, t', e1, e2, e3⟩ := hline
  repeat (any_goals (first | assumption | (with_reducible refine wpAny_loadPart_at hx ?_; rw [hc]) | (with_reducible refine wpAny_typeLookup_exc hC hN FB.mro tl_line ?_; rw [hl]) | wp_step))
  rw [hd]
  dsimp only
  unfold instanceDict
  repeat (any_goals (first | assumption | (with_reducible refine wpAny_loadPart_at hx ?_; rw [hdi]) | wp_step))
  rw [hc]
  dsimp only
  have hNd : h.Ns dd0 (fun y => nsFind es y) := ⟨od, es, ep, hdd, e1, e2, fun _ => rfl⟩
  refine wpAny_bind ?_
  unfold classData
  refine wpAny_bind (wpAny_loadPart_at hC ?_)
  dsimp only [excClassObj]
  refine wpAny_pure ?_
  dsimp only
  rw [if_neg (by decide)]
  refine wpAny_pure ?_
  refine wpAny_nsGet hNd ?_
  rw [e3]
  repeat (any_goals (first | assumption | wp_step))
  exact hq _
theorem line_check {M : Model} {nameV : Value} {Q : Unit → Shared → Prop} (hC : h.get? C = some (excClassObj nm q C N bs bmE true sn sub ab col dd k0 k1 k2 k3 k5 newId))
    (hx : h.get? a = some o) (hc : o.cls = .ref C) (hq : Q () ⟨h, g, d, t, os⟩) : wpAny M A (checkBuiltinCall "BaseException.__getattribute__" ⟨[.ref a, nameV], []⟩) Q E ⟨h, g, d, t, os⟩ := by
  have hk : builtinKind "BaseException.__getattribute__" = some .slot := by decide +kernel
  have hsplit : splitId "BaseException.__getattribute__" = some ("BaseException", "__getattribute__") := by decide +kernel
  have hcB : (Value.ref C :: bmE).contains (.type "BaseException") = true := by rw [List.contains_cons]; rfl
  have ha := F.args_bexc_ga (.ref a) nameV
  simp only [checkBuiltinCall, hk, hsplit]
  refine wpAny_bind ?_
  · unfold isInstance
    repeat (first | (with_reducible refine wpAny_loadPart_at hx ?_; rw [hc]) | (with_reducible refine wpAny_isSubtype_exc hC ?_; rw [hcB]) | wp_step)
    exact hq
theorem line_by {tk : Tok} {fill expr : Bool} {Q : Value → Shared → Prop} (FB : ExcAttrBase "Exception" bmE) (hC : h.get? C = some (excClassObj nm q C N bs bmE true sn sub ab col dd k0 k1 k2 k3 k5 newId)) (hN : h.Ns N mN)
    (hl : mN "line" = none) (hg : mN "__getattribute__" = none) (hg2 : mN "__getattr__" = none) (hx : h.get? a = some o) (hc : o.cls = .ref C) (hd : o.data = .fields vs) (hdi : o.dict = some dd0) (hdd : h.get? dd0 = some od) (hline : LineOf od line)
    (hq : ∀ t', Q (.int line t') ⟨h, g, d, t, os⟩) :
    wpAny (model prog w) A (getAttrBy (.ref a) (.str "line" tk) fill expr) Q E ⟨h, g, d, t, os⟩ := by
  have f3 := FB.ga.bind (.ref a)
  have hx0 : (expr && onTheHeap (Value.builtin "BaseException.__getattribute__")) = false := by cases expr <;> rfl
  have hx2 : (Value.builtin "BaseException.__getattribute__" == Value.builtin "object.__getattribute__") = false := by decide +kernel
  have hx1 : (onTheHeap (Value.ref C) && Value.builtin "BaseException.__getattribute__" == Value.builtin "object.__getattribute__") = false := by rw [hx2]; rfl
  repeat (any_goals (first | assumption | (with_reducible refine wpAny_loadPart_at hx ?_; rw [hc]) | (with_reducible refine wpAny_typeLookup_exc hC hN FB.mro FB.ga.lookup ?_; rw [hg]) | (with_reducible refine wpAny_typeLookup_exc hC hN FB.mro FB.noGetattr ?_; rw [hg2]) | wp_step))
  refine codeAny_call_builtin FB.ga.plain F.entry_bexc_ga (line_check hC hx hc (line_entry FB hC hN hl hx hc hd hdi hdd hline fun t' => ?_))
  repeat (any_goals (first | assumption | wp_step))
  exact hq _
theorem line_attr {expr : Bool} {Q : Value → Shared → Prop} (FB : ExcAttrBase "Exception" bmE) (hC : h.get? C = some (excClassObj nm q C N bs bmE true sn sub ab col dd k0 k1 k2 k3 k5 newId)) (hN : h.Ns N mN)
    (hl : mN "line" = none) (hg : mN "__getattribute__" = none) (hg2 : mN "__getattr__" = none) (hx : h.get? a = some o) (hc : o.cls = .ref C) (hd : o.data = .fields vs) (hdi : o.dict = some dd0) (hdd : h.get? dd0 = some od) (hline : LineOf od line)
    (hq : ∀ t', Q (.int line t') ⟨h, g, d, t + 1, os⟩) :
    wpAny (model prog w) A (getAttr (.ref a) "line" expr) Q E ⟨h, g, d, t, os⟩ := by
  unfold getAttr
  repeat (any_goals (first | assumption | with_reducible apply line_by FB hC hN hl hg hg2 hx hc hd hdi hdd hline | wp_step))
end
end
section
noncomputable def End (W : Wd) (s : Shared) : Prop := W.b.StaysIn s.heap ∧ Sh W.s0 s
noncomputable def WS0 (W : Wd) (Γ : Fc) (n : Nat) (ss : List Stmt) (m : Loc) (S : Store) : Prop :=
  W.Ok → Γ.Ok W → ∀ B hd tl s, AOk Γ n B → St W Γ hd tl m S s → wpAny (model W.prog W.w) B (execs ss Γ.ev) (fun f s' => f = .ret (.bool true) ∧ End W s') (fun _ _ => False) s
noncomputable abbrev KN0 (W : Wd) (Γ : Fc) (n : Nat) (ss : List Stmt) : Fl → Loc → Store → Prop := fun f m1 S1 => match f with | .nxt => WS0 W Γ n ss m1 S1 | _ => False
section
variable {W : Wd} {Γ : Fc} {n : Nat} {m : Loc} {S : Store} {cs : Scope} {ns : List Str} {cl : List (Str × Addr)}
theorem s0_cons {st : Stmt} {ss : List Stmt} (h : W1 W Γ n st m S (KN0 W Γ n ss) (fun _ => False)) : WS0 W Γ n (st :: ss) m S := by
  intro hW hΓ B hd tl s hB hs
  refine wpAny_execs_cons (wpAny_mono (h hW hΓ B hd tl s hB hs) ?_ fun _ _ ⟨_, _, f, _⟩ => f.elim)
  rintro f s1 ⟨fl, m1, S1, tl1, x1, st1, r1, q1⟩
  cases r1 with
  | nxt => exact q1 hW hΓ B hd tl1 s1 hB st1
  | brk => exact q1.elim
  | cnt => exact q1.elim
  | ret v av r => exact q1.elim
structure BadCls (W : Wd) : Prop where
  cls : BadC W.K W.bad fun N => nsIn W.K N "line" = some none ∧ nsIn W.K N "__getattribute__" = some none ∧ nsIn W.K N "__getattr__" = some none
  one : exmOne W.K (.ref W.bad) (.ref W.bad) = some true
theorem w_attrN {M : Model} {A : Around} {E : Value → Shared → Prop} {s : Shared} {env : Env} {y x : Str} {p pos : Pos} {Q : Value → Shared → Prop} (h : wpAny M A (do
      let ov ← eval (.Name y p) env
      standAt pos.atName
      let r ← holding [ov] (getAttr ov x true)
      letTemporaryGo (.Name y p) ov r
      pure r) Q E s) : wpAny M A (eval (.Attribute (.Name y p) x pos) env) Q E s := by
  have e : eval (.Attribute (.Name y p) x pos) env = (do
      let ov ← eval (.Name y p) env
      standAt pos.atName
      let r ← holding [ov] (getAttr ov x true)
      letTemporaryGo (.Name y p) ov r
      pure r) := rfl
  rw [e]; exact h
theorem s0_try {e : Expr} {rest : List Stmt} {xb xe xl xa : Str} {ie ia : Nat} {k : Int} {p1 p2 p3 p4 p5 p6 p7 p8 p9 : Pos} (hF : FcIs Γ cs ns cl) (hk : cs.kind = .function) (hg : Γ.g = W.b) (ho : Γ.outer = []) (hc : noComp e = true)
    (hb : BadCls W) (gb : isGl cs xb = true) (eb : nsIn W.K mainGlobals xb = some (some (.ref W.bad))) (hxe : Ix xe ie ns) (hxa : Ix xa ia ns) (hne : xa ≠ xe) (hma : m[ia]? = some (some (.int k))) (hxl : Str.ofString "line" = xl)
    (h : WE W Γ n e m S (fun _ _ => False) (fun i => i = k)) :
    WS0 W Γ n [.Try (.Expr e p1 :: rest) [.ExceptHandler (some (.Name xb p2)) (some xe) [.Return (some (.Compare (.Attribute (.Name xe p3) xl p4) [.Eq] [.Name xa p5] p6)) p7] p8] [] [] p9] m S := by
  subst hxl
  intro hW hΓ B hd tl s hB hst
  have hkk := gl_of hF gb
  have hint : interactive Γ.ev = false := by unfold interactive; rw [hF.ev, hk]; rfl
  refine wpAny_execs_cons (wpAny_Try_except ?_)
  refine wpAny_execs_cons (wpAny_Expr_any (wpAny_mono (h hW hΓ B hd tl s hB hst) ?_ ?_) hint (swaps_no hc))
  · rintro v s1 ⟨av, S1, tl1, x1, st1, r1, q⟩
    exact q.elim
  rintro v s1 ⟨line, rfl, a, rfl, hsh, ⟨g₂, mc, tl2, F2, lr2, u2⟩, fl⟩
  rw [Fc.ev_env hF.blk] at hkk ⊢
  rw [ho] at fl
  have hfr : B.frames = some (Γ.env :: []) := by rw [← ho]; exact hB.frames
  obtain ⟨h1, gn, d1, t1, os1⟩ := s1
  refine flies_note hfr rfl fl fun h2 f2 u3 => ?_
  refine flies_flight f2 fun h3 f3 u4 => ?_
  rw [hg] at F2
  have F3 : Fr W.b Γ.L h3 mc := F2.of_stays f3.stays (u2.trans (u3.trans u4))
  refine wpAny_handleBy_cons (codeAny_handlers_test (nameG_K F3 hW.inK (topRead_of hW.top) eb ?_ rfl hkk.1 hkk.2.1 hkk.2.2)) (by intro q; cases q)
  refine (exm_one (hW.inK.keeps F3.keep) f3.looks hb.one) (B.mark (some (.ref a))) _ _ _ (fun _ _ e => e) ?_
  refine codeAny_handlers_suite_as ?_
  refine flies_flight f3 fun h4 f4 u5 => ?_
  have F4 := F3.of_stays f4.stays u5
  obtain ⟨oe, vs, dx, od, he, hec, hed, hef, hdn, hdL, hda, hgd, hline, _⟩ := f4.tx
  have haL : a ≠ Γ.L := fun q => by
    obtain ⟨o, es, ep, ho, hd, _⟩ := F4.ns
    have ho' : h4.get? Γ.L = some o := ho
    rw [← q, he] at ho'
    cases ho'
    rw [hef] at hd; cases hd
  have hdL' : dx ≠ Γ.L := fun q => hdL (by rw [q]; exact .head _)
  have N4 : News W.b Γ.L h4 [(a, oe), (dx, od)] := fun p hp => by
    rcases List.mem_cons.mp hp with rfl | hp
    · exact ⟨he, haL, f4.new⟩
    · rw [List.mem_singleton] at hp; subst hp; exact ⟨hgd, hdL', hdn⟩
  have lE : Γ.env.kindOf xe = some .local := hΓ.loc xe (by rw [hF.ns]; exact hxe.mem)
  have lA : Γ.env.kindOf xa = some .local := hΓ.loc xa (by rw [hF.ns]; exact hxa.mem)
  have dE := hΓ.dbg xe (by rw [hF.ns]; exact hxe.mem)
  have dA := hΓ.dbg xa (by rw [hF.ns]; exact hxa.mem)
  refine storeX_L (s := ⟨h4, gn, d1, t1, os1⟩) F4 N4 (fun h5 F5 N5 => ?_) hΓ.kind lE
  have X5 := hW.inK.keeps F5.keep
  obtain ⟨nm, q, N, bs, sn, sub, ab, col, dd, k0, k1, k2, k3, k5, hC, hNs, hl, hg1, hg2⟩ := hb.cls
  have G5 : h5.Ns N (h5.nsMap N) := .of_isNs (isNs_of_in X5 hNs)
  obtain ⟨va, hva, rva⟩ := lr2 ia xa (.int line) (by rw [hF.ns]; exact hxa.get) hma
  cases rva with
  | int _ ta =>
  refine wpAny_execs_cons (wpAny_Return_some (wpAny_Compare1 ?_ (marks_no rfl)))
  refine w_attrN ?_
  refine wpAny_bind (nameX_L F5 (v := .ref a) (if_pos rfl) ?_ hΓ.kind lE dE)
  refine wpAny_bind (wpAny_standAt (wpAny_bind (wpAny_holding ?_)))
  refine line_attr F.attrBase_Exception (X5 _ _ hC) G5 (nsMap_none_of_in X5 hNs hl) (nsMap_none_of_in X5 hNs hg1) (nsMap_none_of_in X5 hNs hg2) (N5 _ (.head _)).1 hec hef hed (N5 _ (.tail _ (.head _))).1 hline fun tl => ?_
  refine wpAny_bind (wpAny_pure (wpAny_pure ?_))
  refine nameX_L F5 (v := .int line ta) (by rw [if_neg hne]; exact hva) ?_ hΓ.kind lA dA
  refine eq_int ?_
  refine wpAny_nameGoes (m := fun y => if y = xe then some (.ref a) else mc y) lE F5.ns (by show (Γ.cs.kind == .class || (Γ.cs.kind == .module && Γ.L != mainGlobals)) = false; rw [hΓ.kind]; rfl) fun h6 m6 n6 s6 => ?_
  have hbL : W.b.get? Γ.L = none := by
    cases q : W.b.get? Γ.L with
    | none => rfl
    | some o => exact absurd (Nat.lt_of_lt_of_le (Heap.lt_size q) F5.above) (Nat.lt_irrefl _)
  refine ⟨by rw [beq_self_eq_true], fun b o e => s6.extBut b o (fun q => ?_) (F5.keep b o e), hsh.gens, hsh.drawn, hsh.os⟩
  replace q : b = Γ.L := q
  rw [q, hbL] at e; cases e
end
end
section
theorem runs_toks {M : Model} {Γ : Ctx} {p : Pos} {t : Sem PySem.Fin} {fs : List Frame} {s s' : Shared} {e : PySem.End} (h : Runs M Γ p t fs s e s') : s.toks ≤ s'.toks := by
  induction h <;> first | exact Nat.le_refl _ | assumption | (rename_i a b; exact Nat.le_trans a b) | (rename_i a; exact Nat.le_trans (Nat.le_succ _) a)
theorem wakes_toks {M : Model} {Γ : Ctx} {p : Pos} {g : Nat} {r : Resume} {s s' : Shared} {x : GenResult} (h : Wakes M Γ p g r s x s') : s.toks ≤ s'.toks := by
  unfold Wakes at h
  split at h
  · exact h.elim
  · split at h
    · obtain ⟨e, s1, h1, _, _, rfl⟩ := h; exact (runs_toks h1 : _)
    · exact h.2 ▸ Nat.le_refl _
    · exact h.2 ▸ Nat.le_refl _
  · obtain ⟨e, s1, h1, _, _, rfl⟩ := h; exact (runs_toks h1 : _)
  · exact h.2 ▸ Nat.le_refl _
  · exact h.2 ▸ Nat.le_refl _
theorem wp_toks {α : Type} {M : Model} {Γ : Ctx} {t : Sem α} {Q : α → Pos → Shared → Prop} {E : Value → Pos → Shared → Prop} {k : Nat} : ∀ {p : Pos} {s : Shared}, k ≤ s.toks → Sem.wp M Γ t Q E p s →
    Sem.wp M Γ t (fun a p s' => Q a p s' ∧ k ≤ s'.toks) (fun e p s' => E e p s' ∧ k ≤ s'.toks) p s := by
  induction t with
  | pure a => exact fun hk h => ⟨h, hk⟩
  | raise e => exact fun hk h => ⟨h, hk⟩
  | unsupported | finish | yield | fork | await | register => exact fun _ h => h
  | load a part f ih => exact fun hk ⟨o, ho, h⟩ => ⟨o, ho, ih _ hk h⟩
  | update a part f g ih => exact fun hk ⟨ho, h⟩ => ⟨ho, ih _ hk h⟩
  | choose a n f ih => exact fun hk ⟨ho, h⟩ => ⟨ho, ih _ hk h⟩
  | genState a f ih => exact fun hk ⟨o, ho, h⟩ => ⟨o, ho, ih _ hk h⟩
  | fresh f ih => exact fun hk h => ih _ (Nat.le_succ_of_le hk) h
  | call c h g l f ih => exact fun hk ⟨r, s', h1, h2⟩ => ⟨r, s', h1, ih _ (Nat.le_trans hk (runs_toks h1)) h2⟩
  | resume g r l f ih => exact fun hk ⟨r, s', h1, h2⟩ => ⟨r, s', h1, ih _ (Nat.le_trans hk (wakes_toks h1)) h2⟩
  | _ => rename_i ih; exact fun hk h => ih _ hk h
theorem any_toks {α : Type} {M : Model} {A : Around} {t : Sem α} {Q : α → Shared → Prop} {E : Value → Shared → Prop} {s : Shared} {k : Nat} (hk : k ≤ s.toks) (h : wpAny M A t Q E s) : wpAny M A t (fun a s' => Q a s' ∧ k ≤ s'.toks) (fun e s' => E e s' ∧ k ≤ s'.toks) s :=
  fun Γ p hΓ => wp_toks hk (h Γ p hΓ)
section
variable (W : Wd) (Γ : Fc) (n N : Nat)
noncomputable def WEp (e : Expr) (m : Loc) (S : Store) (Q : AV → Store → Prop) (X : Int → Prop) : Prop :=
  W.Ok → Γ.Ok W → ∀ B hd tl s, N ≤ s.toks → AOk Γ n B → St W Γ hd tl m S s → wpAny (model W.prog W.w) B (eval e Γ.ev) (Post W Γ hd tl m Q) (XP W Γ m X) s
noncomputable def WEsp (pos : Pos) (es : List Expr) (m : Loc) (S : Store) (Q : List AV → Store → Prop) (X : Int → Prop) : Prop :=
  W.Ok → Γ.Ok W → ∀ B hd tl s, N ≤ s.toks → AOk Γ n B → St W Γ hd tl m S s → wpAny (model W.prog W.w) B (spliced (backTo pos (starEach es Γ.ev)))
    (PostV W Γ hd tl m Q) (XP W Γ m X) s
noncomputable def W1p (st : Stmt) (m : Loc) (S : Store) (Q : Fl → Loc → Store → Prop) (X : Int → Prop) : Prop :=
  W.Ok → Γ.Ok W → ∀ B hd tl s, N ≤ s.toks → AOk Γ n B → St W Γ hd tl m S s → wpAny (model W.prog W.w) B (exec st Γ.ev) (PostS W Γ hd tl Q) (XS W Γ X) s
noncomputable def WSp (ss : List Stmt) (m : Loc) (S : Store) (Q : Fl → Loc → Store → Prop) (X : Int → Prop) : Prop :=
  W.Ok → Γ.Ok W → ∀ B hd tl s, N ≤ s.toks → AOk Γ n B → St W Γ hd tl m S s → wpAny (model W.prog W.w) B (execs ss Γ.ev) (PostS W Γ hd tl Q) (XS W Γ X) s
end
section
variable {W : Wd} {Γ : Fc} {n N : Nat} {m : Loc} {S : Store} {X : Int → Prop} {Q : AV → Store → Prop} {cs : Scope} {ns : List Str} {cl : List (Str × Addr)}
theorem WE.p {e : Expr} (h : WE W Γ n e m S Q X) : WEp W Γ n N e m S Q X := fun hW hΓ B hd tl s _ hB hs => h hW hΓ B hd tl s hB hs
theorem WEs.p {pos : Pos} {es : List Expr} {Q : List AV → Store → Prop} (h : WEs W Γ n pos es m S Q X) : WEsp W Γ n N pos es m S Q X := fun hW hΓ B hd tl s _ hB hs => h hW hΓ B hd tl s hB hs
theorem W1.p {st : Stmt} {Q : Fl → Loc → Store → Prop} (h : W1 W Γ n st m S Q X) : W1p W Γ n N st m S Q X := fun hW hΓ B hd tl s _ hB hs => h hW hΓ B hd tl s hB hs
theorem WS.p {ss : List Stmt} {Q : Fl → Loc → Store → Prop} (h : WS W Γ n ss m S Q X) : WSp W Γ n N ss m S Q X := fun hW hΓ B hd tl s _ hB hs => h hW hΓ B hd tl s hB hs
noncomputable abbrev KNp (W : Wd) (Γ : Fc) (n N : Nat) (ss : List Stmt) (Q : Fl → Loc → Store → Prop) (X : Int → Prop) : Fl → Loc → Store → Prop := fun f m1 S1 => match f with | .nxt => WSp W Γ n N ss m1 S1 Q X | f => Q f m1 S1
theorem p_cons {st : Stmt} {ss : List Stmt} {Q : Fl → Loc → Store → Prop} (h : W1p W Γ n N st m S (KNp W Γ n N ss Q X) X) : WSp W Γ n N (st :: ss) m S Q X := by
  intro hW hΓ B hd tl s ht hB hs
  refine wpAny_execs_cons (wpAny_mono (any_toks ht (h hW hΓ B hd tl s ht hB hs)) ?_ fun _ _ e => e.1)
  rintro f s1 ⟨⟨fl, m1, S1, tl1, x1, st1, r1, q1⟩, ht1⟩
  cases r1 with
  | nxt => exact wpAny_mono (q1 hW hΓ B hd tl1 s1 ht1 hB st1) (fun _ _ p => p.ext x1) fun _ _ e => e
  | brk => exact ⟨.brk, m1, S1, tl1, x1, st1, .brk, q1⟩
  | cnt => exact ⟨.cnt, m1, S1, tl1, x1, st1, .cnt, q1⟩
  | ret v av r => exact ⟨.ret av, m1, S1, tl1, x1, st1, .ret _ _ r, q1⟩
theorem p_ret {e : Expr} {pos : Pos} {Q : Fl → Loc → Store → Prop} (h : WEp W Γ n N e m S (KRet Q m) X) : W1p W Γ n N (.Return (some e) pos) m S Q X := by
  intro hW hΓ B hd tl s ht hB hs
  refine wpAny_Return_some (wpAny_mono (h hW hΓ B hd tl s ht hB hs) ?_ fun _ _ e => e.toS)
  rintro v s1 ⟨a, S1, tl1, x1, st1, r1, q1⟩
  exact ⟨.ret a, m, S1, tl1, x1, st1, .ret _ _ r1, q1⟩
theorem p_if {t : Expr} {a b : List Stmt} {pos : Pos} {Q : Fl → Loc → Store → Prop} (h : WT W Γ n t m S (fun c S1 => if c = true then WSp W Γ n N a m S1 Q X else WSp W Γ n N b m S1 Q X) X) : W1p W Γ n N (.If t a b pos) m S Q X := by
  intro hW hΓ B hd tl s ht hB hs
  refine wpAny_If (wpAny_mono (any_toks ht (h hW hΓ B hd tl s hB hs)) ?_ fun _ _ e => e.1.toS)
  rintro c s1 ⟨⟨S1, tl1, x1, st1, q1⟩, ht1⟩
  cases c with
  | true => rw [if_pos rfl] at q1 ⊢; exact wpAny_mono (q1 hW hΓ B hd tl1 s1 ht1 hB st1) (fun _ _ p => p.ext x1) fun _ _ e => e
  | false => rw [if_neg (by decide)] at q1 ⊢; exact wpAny_mono (q1 hW hΓ B hd tl1 s1 ht1 hB st1) (fun _ _ p => p.ext x1) fun _ _ e => e
theorem p_ifx {t a b : Expr} {pos : Pos} (h : WT W Γ n t m S (fun c S1 => if c = true then WEp W Γ n N a m S1 Q X else WEp W Γ n N b m S1 Q X) X) : WEp W Γ n N (.IfExp t a b pos) m S Q X := by
  intro hW hΓ B hd tl s ht hB hs
  refine wpAny_IfExp (wpAny_mono (any_toks ht (h hW hΓ B hd tl s hB hs)) ?_ fun _ _ e => e.1)
  rintro c s1 ⟨⟨S1, tl1, x1, st1, q1⟩, ht1⟩
  cases c with
  | true => rw [if_pos rfl] at q1 ⊢; exact wpAny_mono (q1 hW hΓ B hd tl1 s1 ht1 hB st1) (fun _ _ p => p.ext x1) fun _ _ e => e
  | false => rw [if_neg (by decide)] at q1 ⊢; exact wpAny_mono (q1 hW hΓ B hd tl1 s1 ht1 hB st1) (fun _ _ p => p.ext x1) fun _ _ e => e
theorem ps_nil {pos : Pos} {Q : List AV → Store → Prop} (q : Q [] S) : WEsp W Γ n N pos [] m S Q X := WEs.p (es_nil q)
theorem ps_cons {pos : Pos} {e : Expr} {es : List Expr} {Q : List AV → Store → Prop} (hs : noStar e = true) (h : WEp W Γ n N e m S (fun a S1 => WEsp W Γ n N pos es m S1 (fun as S2 => Q (a :: as) S2) X) X) : WEsp W Γ n N pos (e :: es) m S Q X := by
  intro hW hΓ B hd tl s ht hB hst
  rw [star_cons hs]
  show wpAny _ _ (spliced ((false, eval e Γ.ev) :: backTo pos (starEach es Γ.ev))) _ _ _
  refine spliced_cons (wpAny_mono (any_toks ht (h hW hΓ B hd tl s ht hB hst)) ?_ fun _ _ e => e.1)
  rintro v1 s1 ⟨⟨a, S1, tl1, x1, st1, r1, q1⟩, ht1⟩
  refine wpAny_mono (q1 hW hΓ B hd tl1 s1 ht1 hB st1) ?_ fun _ _ e => e
  rintro vs s2 ⟨as, S2, tl2, x2, st2, r2, q2⟩
  exact ⟨a :: as, S2, tl2, x1.trans x2, st2, .cons _ _ _ _ (r1.ext x2) r2, q2⟩
theorem p_list {es : List Expr} {pos : Pos} (h : WEsp W Γ n N pos es m S (fun as S1 => as.length ≤ 10000 ∧ ∀ l S', S1 l = none → Subs S1 S' → S' l = some (.lst as) → Q (.ref l) S') X) : WEp W Γ n N (.List es pos) m S Q X := by
  intro hW hΓ B hd tl s ht hB hs
  refine List_ (wpAny_mono (h hW hΓ B hd tl s ht hB hs) ?_ fun _ _ e => e)
  rintro vs s1 ⟨as, S1, tl1, x1, ⟨mc, cs, st1⟩, r1, hlen, q1⟩
  refine newList_K st1.fr st1.nw (fun l h' F N hl => ?_) (by rw [r1.length, sizeLine_eq]; lia)
  obtain ⟨st2, hn⟩ := st1.new (tk := s1.toks) F N hl (.lst _ _ _ r1)
  exact ⟨.ref l, _, tl1, x1, ⟨_, _, st2⟩, .ref _, q1 l _ hn ((Subs.refl S1).new hn) (upd_same _ _ _)⟩
theorem p_sub {l r : Expr} {pos : Pos} (h : WEp W Γ n N l m S (KSub W Γ n l r m Q X) X) : WEp W Γ n N (.Subscript l r pos) m S Q X := by
  intro hW hΓ B hd tl s ht hB hs
  refine Subscript_ (wpAny_mono (h hW hΓ B hd tl s ht hB hs) ?_ fun _ _ e => e)
  rintro v1 s1 ⟨a, S1, tl1, x1, st1, r1, q1⟩
  refine wpAny_mono (q1 hW hΓ B hd tl1 s1 hB st1) ?_ fun _ _ e => e
  rintro v2 s2 ⟨b, S2, tl2, x2, st2, r2, q2⟩
  exact wpAny_mono (q2 hW hΓ B hd tl2 s2 v1 v2 hB st2 (r1.ext x2) r2) (fun _ _ p => p.ext (x1.trans x2)) fun _ _ e => e
theorem p_first {x f y : Str} {p' fp yp cp pos p : Pos} {i j k : Nat} {c : Int} {g : Addr} {ay : AV} {ss : List Stmt} {Q : Fl → Loc → Store → Prop} (hF : FcIs Γ cs ns cl) (hx : Ix x i ns) (gx : isGl cs f = true) (e : nsIn W.K mainGlobals f = some (some (.ref g))) (hk : keepIn W.K (.ref g) = true) (hy : Ix y j ns) (hm : m[j]? = some (some ay))
    (h : WF W Γ n (.ref g) [ay, .int c] m S (fun a S1 => WSp W Γ n 1 ss (m.set i (some a)) S1 Q X) X) : WS W Γ n (.Assign [.Name x p'] (.Call (.Name f fp) [.Name y yp, .Constant (.int c) k cp] [] pos) p :: ss) m S Q X := by
  intro hW hΓ B hd tl s hB hs
  have hgl := gl_of hF gx
  have hK : W.K.In s.heap := by obtain ⟨mc, cs, c2⟩ := hs; exact c2.inK hW hΓ
  have key : wpAny (model W.prog W.w) B (eval (.Call (.Name f fp) [.Name y yp, .Constant (.int c) k cp] [] pos) Γ.ev) (fun v s' => Post W Γ hd tl m (fun a S1 => WSp W Γ n 1 ss (m.set i (some a)) S1 Q X) v s' ∧ 1 ≤ s'.toks) (XP W Γ m X) s := by
    refine Call_ (name_K hW hΓ hs e ?_ hgl.1 hgl.2.1 hgl.2.2) rfl
    have args : wpAny (model W.prog W.w) B (spliced (backTo pos (starEach [.Name y yp, .Constant (.int c) k cp] Γ.ev))) (fun vs s' => (∃ tl', Ext tl tl' ∧ St W Γ hd tl' m S s' ∧ VRs W.b tl' vs [ay, .int c]) ∧ 1 ≤ s'.toks) (XP W Γ m X) s := by
      show wpAny _ _ (spliced ((false, eval (.Name y yp) Γ.ev) :: backTo pos (starEach [.Constant (.int c) k cp] Γ.ev))) _ _ _
      refine spliced_cons (wpAny_mono (n_name (Q := fun a S1 => a = ay ∧ S1 = S) (X := X) hF hy hm ⟨rfl, rfl⟩ hW hΓ B hd tl s hB hs) ?_ fun _ _ e => e)
      rintro v1 s1 ⟨_, _, tl1, x1, st1, r1, rfl, rfl⟩
      show wpAny _ _ (spliced ((false, eval (.Constant (.int c) k cp) Γ.ev) :: [])) _ _ _
      refine spliced_cons (wpAny_Constant_int (spliced_nil ?_))
      exact ⟨⟨tl1, x1, st1.same _, .cons _ _ _ _ r1 (.cons _ _ _ _ (.int _ _) .nil)⟩, Nat.le_add_left _ _⟩
    refine callWith_K (h₀ := s.heap) hK hk (wpAny_mono args ?_ fun _ _ e => e) rfl rfl
    rintro vs s2 ⟨⟨tl2, x2, st2, r2⟩, ht2⟩
    have hK2 : W.K.In s2.heap := by obtain ⟨mc, cs, c2⟩ := st2; exact c2.inK hW hΓ
    exact ⟨hK2, wpAny_mono (any_toks ht2 (h hW hΓ B hd tl2 s2 vs hB st2 r2)) (fun _ _ p => ⟨p.1.ext x2, p.2⟩) fun _ _ e => e.1⟩
  refine wpAny_execs_cons (wpAny_Assign_Name (wpAny_mono key ?_ fun _ _ e => e.toS) (swaps_no rfl))
  rintro v s1 ⟨⟨a, S1, tl1, x1, ⟨mc, cs, st1⟩, r1, q1⟩, ht1⟩
  rw [Fc.ev_env hF.blk]
  refine storeX_L st1.fr st1.nw (fun h' F N => ?_) hΓ.kind (hΓ.loc x (by rw [hF.ns]; exact hx.mem))
  have := q1 hW hΓ B hd tl1 { s1 with heap := h', toks := s1.toks + 1 } (Nat.succ_pos _) hB ⟨_, _, st1.store hΓ (hF.ns ▸ hx) r1 F N⟩
  rw [Fc.ev_env hF.blk] at this
  exact wpAny_mono this (fun _ _ p => p.ext x1) fun _ _ e => e
end
end
section
open PySem PySem.W PySem.Calls PyProof.Rows PySem.NumText
section
variable {W : Wd} {Γ : Fc} {n N : Nat} {m : Loc} {S : Store} {X : Int → Prop} {Q : AV → Store → Prop} {cs : Scope} {ns : List Str} {cl : List (Str × Addr)}
theorem f_chr {k : Nat} (hk : k < 1000) (q : Q (.str [k]) S) : WF W Γ n (.builtin "chr") [.int (k : Int)] m S Q X := fun _ _ _ _ _ _ _ _ st r => by
  apply VRs.on1 r; intro v rv
  (apply VR.on_int rv; intro _)
  refine P.chr_of_int ?_ (.val st (.str _ _ _ ?_) q _)
  · rw [decide_eq_false (by lia), decide_eq_false (by lia)]; rfl
  · show [((k : Int)).toNat] = [k]
    rw [Int.toNat_natCast]
theorem f_inti {i : Int} (q : Q (.int i) S) : WF W Γ n (.type "int") [.int i] m S Q X := fun _ _ _ _ _ _ _ _ st r => by
  apply VRs.on1 r; intro v rv
  (apply VR.on_int rv; intro _)
  exact call_int_int (.now st (.int _ _) q)
noncomputable def stripT (x : List Nat) : List Nat := (Txt.strip (sOf x)).cps.toList
theorem f_strip {x : List Nat} (hz : x.length ≤ 10000) (q : Q (.str (stripT x)) S) : WF W Γ n (.builtin "str.strip") [.str x] m S Q X := fun _ _ _ _ _ _ _ _ st r => by
  apply VRs.on1 r; intro v rv
  apply VR.on_str rv; intro s t e
  obtain rfl := eq_sOf e
  exact SC.strip (fun t' k => .val st (.str _ _ _ rfl) q k) (by rw [len_sOf, sizeLine_eq]; lia)
theorem n_strip {x : Str} {o : Expr} {apos pos : Pos} (hx : Str.ofString "strip" = x) (h3 : (apos.endLine == pos.line) = true) (h4 : ∀ env, attributeBase o x env (eval o env) = eval o env)
    (h : WE W Γ n o m S (fun v S1 => ∃ w, v = .str w ∧ w.length ≤ 10000 ∧ Q (.str (stripT w)) S1) X) : WE W Γ n (.Call (.Attribute o x apos) [] [] pos) m S Q X := by
  subst hx
  refine n_bmeth0 h3 h4 (h.mono ?_)
  rintro v S1 ⟨w, rfl, hz, q⟩
  exact ⟨_, bm_str F.slot_str_strip F.type_str_strip fun _ _ _ _ _ _ _ _ h => GM.strip h, f_strip hz q⟩
theorem c_int {x : List Nat} {ys : List (List Nat)} (q : Q (.bool (ys.any (· == x))) S) : WC W Γ n .In (.str x) (.tup (ys.map .str)) m S Q X := fun _ hΓ _ _ _ _ _ _ _ hs r1 r2 => by
  apply VR.on_str r1; intro s1 t1 h1
  apply VR.on_tup r2; intro a vs ht r
  obtain ⟨mc, cs, c⟩ := id hs
  obtain ⟨zs, h2, h3⟩ := strs_of r
  refine in_tuple_strs (c.tup hΓ ht) h2 (.now hs (.bool _) ?_)
  have e : zs.any (· == s1) = ys.any (· == x) := by
    rw [← h3, List.any_map]
    refine congrArg (fun f => zs.any f) (funext fun z => ?_)
    obtain rfl := eq_sOf h1
    show (z == sOf x) = (z.cps.toList == x)
    rw [show z = sOf z.cps.toList from eq_sOf rfl, beq_sOf]
  rw [e]; exact q
inductive PartOf : AV → Option Int → Prop
  | none : PartOf .none none
  | int (i : Int) : PartOf (.int i) (some i)
noncomputable def pickA (l : List AV) (lo hi : Option Int) : List AV := (l.drop (kms_lo lo l.length)).take (kms_hi hi l.length - kms_lo lo l.length)
noncomputable def LstAt (W : Wd) (S : Store) (l : Addr) (as : List AV) : Prop := S l = some (.lst as) ∨ ∃ vs : List Value, W.b.IsList l vs.toArray ∧ VRs W.b [] vs as
theorem VRs.ext0 {b : Heap} {tl : Led} {vs : List Value} {as : List AV} (h : VRs b [] vs as) : VRs b tl vs as := h.ext fun _ h => absurd h List.not_mem_nil
theorem LstAt.get {l : Addr} {as : List AV} (h : LstAt W S l as) {hd tl : Led} {mc : Str → Option Value} {cs : Led} {s : Shared} (hΓ : Γ.Ok W) (c : StC W Γ hd tl m S mc cs s) : ∃ vs : List Value, s.heap.IsList l vs.toArray ∧ VRs W.b tl vs as := by
  rcases h with h | ⟨vs, h, r⟩
  · obtain ⟨vs, k, hm, r, hl⟩ := c.lst h
    exact ⟨vs, hl, r⟩
  · obtain ⟨o, ho, hc, hd⟩ := h
    exact ⟨vs, ⟨o, c.base hΓ _ _ ho, hc, hd⟩, r.ext0⟩
theorem e_lslice {value : Expr} {lower upper : Option Expr} {p pos : Pos}
    (h : WE W Γ n value m S (fun a S1 => WP W Γ n lower m S1 (fun b S2 => WP W Γ n upper m S2 (fun c S3 => ∃ l as lo hi, a = .ref l ∧ PartOf b lo ∧ PartOf c hi ∧ LstAt W S3 l as ∧ as.length ≤ 10000 ∧
      ∀ D S', S3 D = none → Subs S3 S' → S' D = some (.lst (pickA as lo hi)) → Q (.ref D) S') X) X) X) : WE W Γ n (.Subscript value (.Slice lower upper none p) pos) m S Q X := by
  intro hW hΓ B hd tl s hB hs
  refine Subscript_ (wpAny_mono (h hW hΓ B hd tl s hB hs) ?_ fun _ _ e => e)
  rintro v1 s1 ⟨a, S1, tl1, x1, st1, r1, q1⟩
  refine wpAny_Slice (wpAny_mono (q1 hW hΓ B hd tl1 s1 hB st1) ?_ fun _ _ e => e)
  rintro v2 s2 ⟨b, S2, tl2, x2, st2, r2, q2⟩
  refine wpAny_mono (q2 hW hΓ B hd tl2 s2 hB st2) ?_ fun _ _ e => e
  rintro v3 s3 ⟨c, S3, tl3, x3, ⟨mc, cs, st3⟩, r3, l, as, lo, hi, rfl, pb, pc, hl, hz, q⟩
  apply VR.on_ref r1
  rw [evalPart_none]
  obtain ⟨vs, hvs, rvs⟩ := hl.get hΓ st3
  have part : ∀ {v : Value} {av : AV} {tl : Led} {o : Option Int}, VR W.b tl v av → PartOf av o → IsPart v o := by
    intro v av tl o r e
    cases e <;> cases r
    · exact .none
    · exact .int _ _
  refine wpAny_pure (kba_turn (value' := .Name "x" pos) (fun _ => rfl) (kmk_slice st3.fr st3.nw hvs (part r2 pb) (part r3 pc) (fun D h' F N hlt => ?_) (by kernel_rfl) (fun _ => rfl) (by rw [List.size_toArray, rvs.length, sizeLine_eq]; lia)))
  have e1 : slicePick vs.toArray lo hi none = (kms_pick vs lo hi).toArray := kms_pick_eq _ _ _
  rw [e1] at N
  have e2 := rvs.length
  have rp : VRs W.b tl3 (kms_pick vs lo hi) (pickA as lo hi) := by
    unfold kms_pick pickA
    rw [e2]
    exact (rvs.drop _).take _
  obtain ⟨st4, hn⟩ := st3.new (tk := s3.toks) F N hlt (.lst _ 0 _ rp)
  exact ⟨.ref D, _, tl3, (x1.trans x2).trans x3, ⟨_, _, st4⟩, .ref _, q D _ hn ((Subs.refl S3).new hn) (upd_same _ _ _)⟩
theorem ints_back {b : Heap} {tl : Led} {vs : List Value} {ks : List Int} : VRs b tl vs (ks.map .int) → IntsAre vs ks := by
  induction ks generalizing vs with
  | nil => intro h; apply VRs.on_nil h; exact .nil
  | cons k ks ih =>
    intro h
    apply VRs.on_cons h; intro v r h1 h2
    apply VR.on_int h1; intro t
    exact .cons _ _ (ih h2)
theorem f_sum {l : Addr} {ks : List Int} (e : S l = some (.lst (ks.map .int))) (q : Q (.int ks.sum) S) : WF W Γ n (.builtin "sum") [.ref l] m S Q X := fun _ hΓ B hd tl s vs hB st r => by
  apply VRs.on1 r; intro v rv
  apply VR.on_ref rv
  obtain ⟨mc, cs, c⟩ := id st
  obtain ⟨vs, k, hm, rvs, hl⟩ := c.lst e
  have hi := ints_back rvs
  obtain ⟨xs, hx⟩ := hi.allInts.items
  rw [hx] at hl
  refine sum_intListG hB.handled hl fun h' tk t' hk => ?_
  have e2 : preSum (numAt xs) xs.size = ks.sum := by
    rw [preSum_eq, List.take_of_length_le (by simp), ← nums_intItems, ← hx]
    show (numsOf vs).sum = ks.sum
    rw [hi.numsOf]
  rw [e2]
  exact .now (st.keeps hk tk) (.int _ _) q
end
end
section
open PySem PySem.W PySem.Calls PyProof.Rows PySem.NumText
open Builtin Builtin.Str
noncomputable def replT (w : List Nat) (y z : Str) : List Nat := (Txt.replace (sOf w) y z).cps.toList
noncomputable def repl1T (w : List Nat) (y z : Str) : List Nat := if ((occurrences (sOf w) y 0 (sOf w).length 1).isEmpty || (y.length == 0 && z.length == 0)) = true then w else (glued z (partsBetween (sOf w) (occurrences (sOf w) y 0 (sOf w).length 1) y.length)).cps.toList
theorem gives_rep4 (x y z : Str) (t u v k : Tok) (h0 : (u == 0 || v == 0) = false) (huv : (u == v) = false) (hyz : (y == z) = false) (hl : tooLong (x.length + (occurrences x y 0 x.length 1).length * z.length) = false) :
    Gives («str.replace» ⟨[.str x t, .str y u, .str z v, .int 1 k], []⟩) (if ((occurrences x y 0 x.length 1).isEmpty || (y.length == 0 && z.length == 0)) = true then .val (.str x t) else .str (glued z (partsBetween x (occurrences x y 0 x.length 1) y.length))) := by
  show Gives (if ((occurrences x y 0 x.length 1).isEmpty || (y.length == 0 && z.length == 0)) = true then (do rule "str.replace.nothing"; ret (.str x t)) else
          (do let same ← isSame (.str y u) (.str z v)
              if same = true then (do rule "str.replace.old-is-new"; ret (.str x t)) else
              if tooLong (x.length + (occurrences x y 0 x.length 1).length * z.length) = true then unsupported "str.replace:memory" else
              retStr (glued z (partsBetween x (occurrences x y 0 x.length 1) y.length)))) _
  cases hc : ((occurrences x y 0 x.length 1).isEmpty || (y.length == 0 && z.length == 0))
  · rw [isSame_str_other y z u v h0 huv hyz, hl]
    exact .of_eq rfl
  · exact .rule (.of_eq rfl)
section
variable {W : Wd} {Γ : Fc} {n N : Nat} {m : Loc} {S : Store} {X : Int → Prop} {Q : AV → Store → Prop} {cs : Scope} {ns : List Str} {cl : List (Str × Addr)}
theorem bnd_repl {a b : Nat} (ha : a ≤ 1000) (hb : b ≤ 1000) : a + (a + 1) * b ≤ 16777216 := by
  have := Nat.mul_le_mul (show a + 1 ≤ 1001 by lia) hb
  lia
theorem p_repl {o : Expr} {x y z : Str} {apos pos py pz : Pos} {ky kz : Nat} (hx : Str.ofString "replace" = x) (h3 : (apos.endLine == pos.line) = true) (h4 : ∀ env, attributeBase o x env (eval o env) = eval o env) (hN : 1 ≤ N) (hyz : (y == z) = false) (hz : z.length ≤ 1000)
    (h : WE W Γ n o m S (fun v S1 => ∃ w, v = .str w ∧ w.length ≤ 1000 ∧ Q (.str (replT w y z)) S1) X) : WEp W Γ n N (.Call (.Attribute o x apos) [.Constant (.str y) ky py, .Constant (.str z) kz pz] [] pos) m S Q X := by
  subst hx
  intro hW hΓ B hd tl s ht hB hs
  refine MethodCall_ (pl := (do return (← importBound o Γ.ev).getD true)) (wpAny_mono (any_toks ht (h hW hΓ B hd tl s hB hs)) ?_ fun _ _ e => e.1) (meth_eq rfl rfl h3 (h4 _))
  rintro v s1 ⟨⟨_, S1, tl1, x1, st1, r1, w, rfl, hw, q⟩, ht1⟩
  apply VR.on_str r1; intro s0 t e
  obtain rfl := eq_sOf e
  refine GM.replace (Calls.callWith_builtin rfl (Calls.evalArgs_plain ?_))
  show wpAny _ _ (spliced ((false, eval (.Constant (.str y) ky py) Γ.ev) :: (false, eval (.Constant (.str z) kz pz) Γ.ev) :: [])) _ _ _
  refine spliced_cons (wpAny_Constant_str (spliced_cons (wpAny_Constant_str (spliced_nil ?_))))
  have hn1 : (s1.toks : Nat) ≠ 0 := by lia
  have hn2 : (s1.toks + 1 : Nat) ≠ 0 := by lia
  have hn3 : (s1.toks : Nat) ≠ s1.toks + 1 := by lia
  refine PySem.SC.replace hn1 hn2 hn3 hyz ?_ fun t' k => ?_
  · rw [len_sOf]; exact bnd_repl hw hz
  · exact (Post.val (st1.same _) (.str _ _ _ rfl) q k).ext x1
theorem p_repl1 {o : Expr} {x y z : Str} {apos pos py pz pk : Pos} {ky kz kk : Nat} (hx : Str.ofString "replace" = x) (h3 : (apos.endLine == pos.line) = true) (h4 : ∀ env, attributeBase o x env (eval o env) = eval o env) (hN : 1 ≤ N) (hyz : (y == z) = false) (hz : z.length ≤ 1000)
    (h : WE W Γ n o m S (fun v S1 => ∃ w, v = .str w ∧ w.length ≤ 1000 ∧ (repl1T w y z).length ≤ 10000 ∧ Q (.str (repl1T w y z)) S1) X) : WEp W Γ n N (.Call (.Attribute o x apos) [.Constant (.str y) ky py, .Constant (.str z) kz pz, .Constant (.int 1) kk pk] [] pos) m S Q X := by
  subst hx
  intro hW hΓ B hd tl s ht hB hs
  refine MethodCall_ (pl := (do return (← importBound o Γ.ev).getD true)) (wpAny_mono (any_toks ht (h hW hΓ B hd tl s hB hs)) ?_ fun _ _ e => e.1) (meth_eq rfl rfl h3 (h4 _))
  rintro v s1 ⟨⟨_, S1, tl1, x1, st1, r1, w, rfl, hw, hlen, q⟩, ht1⟩
  apply VR.on_str r1; intro s0 t e
  obtain rfl := eq_sOf e
  refine GM.replace (Calls.callWith_builtin rfl (Calls.evalArgs_plain ?_))
  show wpAny _ _ (spliced ((false, eval (.Constant (.str y) ky py) Γ.ev) :: (false, eval (.Constant (.str z) kz pz) Γ.ev) :: (false, eval (.Constant (.int 1) kk pk) Γ.ev) :: [])) _ _ _
  refine spliced_cons (wpAny_Constant_str (spliced_cons (wpAny_Constant_str (spliced_cons (wpAny_Constant_int (spliced_nil ?_))))))
  have hn : ((s1.toks : Nat) == 0 || (s1.toks + 1 : Nat) == 0) = false := by
    simp only [Bool.or_eq_false_iff, beq_eq_false_iff_ne]; lia
  have hn3 : ((s1.toks : Nat) == s1.toks + 1) = false := by
    simp only [beq_eq_false_iff_ne]; lia
  have hb : (sOf w).length + (occurrences (sOf w) y 0 (sOf w).length 1).length * z.length ≤ 16777216 := by
    have h1 := Nat.mul_le_mul (StrLaws.occ_length_le (sOf w) y 0 (sOf w).length 1) hz
    rw [len_sOf] at h1 ⊢
    lia
  refine call_gives F.slot_str_replace (typeIs_str _ _ _) F.entry_str_replace (F.args_str_replace_4 _ _ _ _) (gives_rep4 (sOf w) y z t _ _ _ hn hn3 hyz (by unfold tooLong sizeLine; exact decide_eq_false (by lia))) ?_
  unfold repl1T at q hlen
  cases hc : ((occurrences (sOf w) y 0 (sOf w).length 1).isEmpty || (y.length == 0 && z.length == 0))
  · rw [hc] at q hlen
    simp only [Bool.false_eq_true, if_false] at q hlen ⊢
    exact ⟨Nat.le_trans hlen (by rw [sizeLine_eq]; decide), (Post.val (st1.same _) (.str _ _ _ rfl) q _).ext x1⟩
  · rw [hc] at q
    simp only [if_true] at q ⊢
    exact (Post.val (st1.same _) (.str _ _ _ rfl) q _).ext x1
theorem store_cell {x : Str} {c : Addr} {av : AV} {v0 : Option AV} {B : Around} {hd tl : Led} {s : Shared} {v : Value} {Q : Unit → Shared → Prop} {E : Value → Shared → Prop} (hF : FcIs Γ cs ns cl) (hΓ : Γ.Ok W) (hc : cl.lookup x = some c) (hx : cs.names.lookup x = some .cell) (hm : S c = some (.cell v0)) (hs : St W Γ hd tl m S s) (rv : VR W.b tl v av)
    (q : ∀ s', s'.toks = s.toks → St W Γ hd tl m (upd S c (.cell (some av))) s' → Q () s') : wpAny (model W.prog W.w) B (storeName Γ.env x v) Q E s := by
  obtain ⟨mc, cs', k⟩ := hs
  obtain ⟨o, ho, r⟩ := k.obj hm
  have hN := k.nw _ (List.mem_append_right _ ho)
  have cell : ∃ v0 : Option Value, s.heap.IsCell c v0 := by
    cases r with
    | celln _ e => exact ⟨_, _, hN.1, e⟩
    | cells _ _ _ e _ => exact ⟨_, _, hN.1, e⟩
  obtain ⟨v0', hcell⟩ := cell
  refine wpAny_storeName_cell hΓ.kind (by show Γ.cs.names.lookup x = _; rw [hF.cs]; exact hx) (show Γ.cl.lookup x = some c by rw [hF.cl]; exact hc) hcell fun h' hc' hs' => ?_
  obtain ⟨o', ho', e'⟩ := hc'
  have F := k.fr.change hs' hN.2.1 hN.2.2
  have N : News Γ.g Γ.L h' (hd ++ tl ++ rep c o' cs') := by
    have h0 : News Γ.g Γ.L h' (rep c o' (hd ++ tl ++ cs')) := News.replace k.nw hs' ho'
    rw [rep_append, rep_off (k.off ho)] at h0
    exact h0
  exact q _ rfl ⟨mc, _, k.put (tk := s.toks) ho F N (.cells _ v _ e' rv)⟩
noncomputable def splitT (w : List Nat) (y : Str) : List (List Nat) := (Txt.split (sOf w) y).map (·.cps.toList)
noncomputable def splitFound (w : List Nat) (y : Str) : Bool := !(decide ((sOf w).length < y.length) || decide (strKind (sOf w) < strKind y)) && !(occurrences (sOf w) y 0 (sOf w).length ((sOf w).length + 1)).isEmpty
theorem strsFrom_are : ∀ (k : Nat) (l : List Str), StrsAre (strsFrom k l) l
  | _, [] => .nil
  | k, x :: r => .cons _ _ (strsFrom_are (k + 1) r)
theorem strsFrom_at {k i : Nat} {l : List Str} {v : Str} {t : Tok} (h : (strsFrom k l)[i]? = some (.str v t)) : l[i]? = some v ∧ t = k + i ∧ i < l.length := by
  induction l generalizing k i with
  | nil => exact nomatch (show (none : Option Value) = some (.str v t) from h)
  | cons x r ih => cases i with
  | zero => cases h; exact ⟨rfl, rfl, Nat.succ_pos _⟩
  | succ i =>
    obtain ⟨h1, h2, h3⟩ := ih (k := k + 1) (i := i) h
    exact ⟨h1, by rw [h2]; show k + 1 + i = k + (i + 1); lia, Nat.succ_lt_succ h3⟩
theorem strsFrom_len : ∀ (k : Nat) (l : List Str), (strsFrom k l).length = l.length
  | _, [] => rfl
  | k, x :: r => congrArg Nat.succ (strsFrom_len (k + 1) r)
theorem vrs_strs {b : Heap} {tl : Led} {vs : List Value} {ys : List Str} (h : StrsAre vs ys) : VRs b tl vs ((ys.map (·.cps.toList)).map .str) :=
  StrsAre.rec (motive := fun vs (ys : List Str) _ => VRs b tl vs ((ys.map fun y : Str => y.cps.toList).map .str)) .nil (fun _ _ _ _ _ r => .cons _ _ _ _ (.str _ _ _ rfl) r) h
theorem split_call {w : List Nat} {t u : Tok} {y : Str} {B : Around} {s : Shared} {Q : Value → Shared → Prop} {E : Value → Shared → Prop} {prog : Program} {wd : World} (hy : (y.length == 0) = false) (hz : w.length ≤ 10000)
    (q : ∀ vs k, StrsAre vs (Txt.split (sOf w) y) → s.toks ≤ k → (splitFound w y = true → vs = strsFrom s.toks (Txt.split (sOf w) y) ∧ k = s.toks + (Txt.split (sOf w) y).length) → Q (.ref s.heap.objs.size) { s with heap := s.heap.push (listOf vs.toArray 0), toks := k }) :
    wpAny (model prog wd) B (call (.builtin "str.split") [.str (sOf w) t, .str y u]) Q E s := by
  have hl : (sOf w).length ≤ 10000 := by rw [len_sOf]; exact hz
  unfold splitFound at q
  have hsp : Txt.split (sOf w) y = if (decide ((sOf w).length < y.length) || decide (strKind (sOf w) < strKind y)) = true then [sOf w] else
    if (occurrences (sOf w) y 0 (sOf w).length ((sOf w).length + 1)).isEmpty = true then [sOf w] else partsBetween (sOf w) (occurrences (sOf w) y 0 (sOf w).length ((sOf w).length + 1)) y.length := rfl
  cases h1 : (decide ((sOf w).length < y.length) || decide (strKind (sOf w) < strKind y))
  · cases hf : (occurrences (sOf w) y 0 (sOf w).length ((sOf w).length + 1)).isEmpty
    · rw [h1, hf, if_neg (by decide), if_neg (by decide)] at hsp
      have hle := split_le (sOf w) y
      refine call_meets F.slot_str_split (typeIs_str _ _ _) F.entry_str_split (F.args_str_split_2 _ _) (meets_str_split_sep (sOf w) y t u h1 hy hf (by rw [sizeLine_eq]; lia) (by rw [← hsp, sizeLine_eq]; lia)) ?_
      rw [← hsp]
      exact q _ _ (strsFrom_are _ _) (Nat.le_add_right _ _) fun _ => ⟨rfl, rfl⟩
    · rw [h1, hf, if_neg (by decide), if_pos rfl] at hsp
      refine call_meets F.slot_str_split (typeIs_str _ _ _) F.entry_str_split (F.args_str_split_2 _ _) (meets_str_split_not_found (sOf w) y t u h1 hy hf) ?_
      refine q [.str (sOf w) t] s.toks (by rw [hsp]; exact .cons _ _ .nil) (Nat.le_refl _) fun h => ?_
      rw [h1, hf] at h; cases h
  · rw [h1, if_pos rfl] at hsp
    refine call_meets F.slot_str_split (typeIs_str _ _ _) F.entry_str_split (F.args_str_split_2 _ _) (meets_str_split_cannot_occur (sOf w) y t u h1) ?_
    refine q [.str (sOf w) t] s.toks (by rw [hsp]; exact .cons _ _ .nil) (Nat.le_refl _) fun h => ?_
    rw [h1] at h; cases h
theorem n_split {o e : Expr} {x : Str} {apos pos : Pos} (hx : Str.ofString "split" = x) (h1 : noStar e = true) (h3 : (apos.endLine == pos.line) = true) (h4 : ∀ env, attributeBase o x env (eval o env) = eval o env)
    (h : WE W Γ n o m S (fun v S1 => ∃ w, v = .str w ∧ WE W Γ n e m S1 (fun v2 S2 => ∃ y, v2 = .str y ∧ y ≠ [] ∧ w.length ≤ 10000 ∧ ∀ l S', S2 l = none → Subs S2 S' → S' l = some (.lst ((splitT w (sOf y)).map .str)) → Q (.ref l) S') X) X) : WE W Γ n (.Call (.Attribute o x apos) [e] [] pos) m S Q X := by
  subst hx
  refine n_bmeth (by unfold plainArgs; rw [List.all_cons, h1]; rfl) rfl h3 h4 (h.mono ?_)
  rintro v S1 ⟨w, rfl, q⟩
  refine ⟨_, bm_str F.slot_str_split F.type_str_split fun _ _ _ _ _ _ _ _ h => GM.split h, ns_cons h1 (q.mono ?_)⟩
  rintro x S2 ⟨y, rfl, hy, hz, q⟩
  refine es_nil fun _ _ _ _ tl s _ _ st r => ?_
  apply VRs.on_cons r; intro v _ rv rr
  apply VRs.on1 rr; intro v2 rv2
  apply VR.on_str rv; intro s1 t1 e1
  apply VR.on_str rv2; intro s2 t2 e2
  obtain rfl := eq_sOf e1
  obtain rfl := eq_sOf e2
  obtain ⟨mc, cs, c⟩ := st
  refine split_call (by rw [len_sOf]; cases y with | nil => exact absurd rfl hy | cons _ _ => rfl) hz fun vs k hvs _ _ => ?_
  have rv : VRs W.b tl vs ((splitT w (sOf y)).map .str) := vrs_strs hvs
  obtain ⟨st4, hn⟩ := c.new (tk := k) (c.fr.push (listOf vs.toArray 0)) (News.push c.fr c.nw (listOf vs.toArray 0)) (fun p hp => Heap.lt_size (c.nw p hp).1) (.lst _ 0 _ rv)
  exact ⟨.ref _, _, _, Ext.refl _, ⟨_, _, st4⟩, .ref _, q _ _ hn ((Subs.refl S2).new hn) (upd_same _ _ _)⟩
theorem p_split {o : Expr} {xw x y : Str} {pw apos pos py p : Pos} {ky : Nat} {c : Addr} {v0 : Option AV} {ss : List Stmt} {Q : Fl → Loc → Store → Prop} (hF : FcIs Γ cs ns cl) (hc : cl.lookup xw = some c) (hxw : cs.names.lookup xw = some .cell) (hm : S c = some (.cell v0)) (hx : Str.ofString "split" = x) (h3 : (apos.endLine == pos.line) = true) (h4 : ∀ env, attributeBase o x env (eval o env) = eval o env) (hy : (y.length == 0) = false) (hN : 1 ≤ N)
    (h : WE W Γ n o m S (fun v S1 => ∃ w, v = .str w ∧ w.length ≤ 10000 ∧ S1 = S ∧ ∀ l vs N', S l = none → N ≤ N' → StrsAre vs (Txt.split (sOf w) y) → (splitFound w y = true → ∃ k, 1 ≤ k ∧ vs = strsFrom k (Txt.split (sOf w) y) ∧ k + (Txt.split (sOf w) y).length ≤ N') →
      WSp W Γ n N' ss m (upd (upd S l (.raw (listOf vs.toArray 0))) c (.cell (some (.ref l)))) Q X) X) : WSp W Γ n N (.Assign [.Name xw pw] (.Call (.Attribute o x apos) [.Constant (.str y) ky py] [] pos) p :: ss) m S Q X := by
  subst hx
  intro hW hΓ B hd tl s ht hB hs
  refine wpAny_execs_cons (wpAny_Assign_Name ?_ (swaps_no rfl))
  refine MethodCall_ (pl := (do return (← importBound o Γ.ev).getD true)) (wpAny_mono (any_toks ht (h hW hΓ B hd tl s hB hs)) ?_ fun _ _ e => e.1.toS) (meth_eq rfl rfl h3 (h4 _))
  rintro v s1 ⟨⟨_, _, tl1, x1, st1, r1, w, rfl, hz, rfl, q⟩, ht1⟩
  apply VR.on_str r1; intro s0 t e
  obtain rfl := eq_sOf e
  refine GM.split (Calls.callWith_builtin rfl (Calls.evalArgs_plain ?_))
  show wpAny _ _ (spliced ((false, eval (.Constant (.str y) ky py) Γ.ev) :: [])) _ _ _
  refine spliced_cons (wpAny_Constant_str (spliced_nil ?_))
  refine split_call hy hz fun vs k hvs hk hf => ?_
  dsimp only at hk hf
  obtain ⟨mc, cs', c1⟩ := st1
  obtain ⟨st4, hn⟩ := c1.new (tk := k) (c1.fr.push (listOf vs.toArray 0)) (News.push c1.fr c1.nw (listOf vs.toArray 0)) (fun p hp => Heap.lt_size (c1.nw p hp).1) (.raw _)
  rw [Fc.ev_env hF.blk]
  have hlc : c ≠ s1.heap.objs.size := by rintro rfl; rw [hn] at hm; cases hm
  refine store_cell (v0 := v0) hF hΓ hc hxw (by rw [upd_ne hlc]; exact hm) ⟨_, _, st4⟩ (.ref _) fun s5 ht5 st5 => ?_
  have hN' : N ≤ k := Nat.le_trans ht1 (Nat.le_trans (Nat.le_succ _) hk)
  have := q _ vs k hn hN' hvs (fun h => ⟨s1.toks + 1, Nat.le_add_left _ _, (hf h).1, by rw [(hf h).2]; exact Nat.le_refl _⟩) hW hΓ B hd tl1 s5 (by rw [ht5]; exact Nat.le_refl _) hB st5
  rw [Fc.ev_env hF.blk] at this
  exact wpAny_mono this (fun _ _ p => p.ext x1) fun _ _ e => e
theorem last_raw {xw : Str} {pw p1 p2 p3 : Pos} {k1 : Nat} {c l : Addr} {vs : List Value} {v : Value} {B : Around} {hd tl : Led} {s : Shared} {E : Value → Shared → Prop} (hF : FcIs Γ cs ns cl) (hW : W.Ok) (hΓ : Γ.Ok W) (hB : AOk Γ n B) (hc : cl.lookup xw = some c) (hxw : cs.names.lookup xw = some .cell) (hdb : (xw == ("__debug__" : Str)) = false) (hm : S c = some (.cell (some (.ref l)))) (hl : S l = some (.raw (listOf vs.toArray 0))) (hv : vs.getLast? = some v) (hz : vs.length ≤ 10000) (hs : St W Γ hd tl m S s) (hN : N ≤ s.toks) :
    wpAny (model W.prog W.w) B (eval (.Subscript (.Name xw pw) (.UnaryOp .USub (.Constant (.int 1) k1 p1) p2) p3) Γ.ev) (fun v' s' => v' = v ∧ (∃ tl', Ext tl tl' ∧ St W Γ hd tl' m S s') ∧ N ≤ s'.toks) E s := by
  refine Subscript_ (wpAny_mono (any_toks hN (n_cell (Q := fun a S1 => a = .ref l ∧ S1 = S) (X := fun _ => False) hF hc hxw hdb hm ⟨rfl, rfl⟩ hW hΓ B hd tl s hB hs)) ?_ fun _ _ ⟨⟨_, f, _⟩, _⟩ => f.elim)
  rintro v1 s1 ⟨⟨_, _, tl1, x1, st1, r1, rfl, rfl⟩, ht1⟩
  apply VR.on_ref r1
  refine wpAny_UnaryOp (wpAny_Constant_int (neg_int ?_))
  obtain ⟨mc, cs', k⟩ := id st1
  obtain ⟨o, ho, r⟩ := k.obj hl
  cases r
  have hL : s1.heap.IsList l vs.toArray := ⟨_, (k.nw _ (List.mem_append_right _ ho)).1, rfl, _, rfl⟩
  rw [List.getLast?_eq_getElem?] at hv
  have hlt := (List.getElem?_eq_some_iff.mp hv).1
  refine kde_neg (s := { s1 with toks := s1.toks + 1 + 1 }) hL (by decide) (by decide) (j := vs.length - 1) ?_ hv ⟨rfl, ⟨tl1, x1, st1.same _⟩, Nat.le_trans ht1 (by show s1.toks ≤ s1.toks + 1 + 1; lia)⟩ (by kernel_rfl)
  unfold seqIndex?
  simp only [show (-1 : Int) < 0 from by decide, if_true]
  have : 0 < vs.length := by lia
  have h2 : (-1 + (vs.length : Int)).toNat = vs.length - 1 := by lia
  have h3 : ¬ (-1 + (vs.length : Int) < 0) := by lia
  have h4 : -1 + (vs.length : Int) < vs.length := by lia
  simp [h2]
  lia
theorem p_replW {o : Expr} {x xw z : Str} {apos pos pw p1 p2 p3 qw q1 q2 q3 pz pa : Pos} {k1 j1 kz : Nat} {c l : Addr} {vs : List Value} {y : Str} {tk : Tok} (hF : FcIs Γ cs ns cl) (hx : Str.ofString "replace" = x) (h3 : (apos.endLine == pos.line) = true) (h4 : ∀ env, attributeBase o x env (eval o env) = eval o env)
    (hc : cl.lookup xw = some c) (hxw : cs.names.lookup xw = some .cell) (hdb : (xw == ("__debug__" : Str)) = false) (hm : S c = some (.cell (some (.ref l)))) (hl : S l = some (.raw (listOf vs.toArray 0))) (hv : vs.getLast? = some (.str y tk)) (hz : vs.length ≤ 10000) (hk : tk ≠ 0) (hkN : tk < N) (hy : (y.length == 0) = false) (hy2 : y.length ≤ 500) (hzl : (z.length == 0) = false) (hz2 : z.length ≤ 500) (hyz : (y == y ++ z) = false)
    (h : WE W Γ n o m S (fun v S1 => ∃ w, v = .str w ∧ w.length ≤ 1000 ∧ S1 = S ∧ Q (.str (replT w y (y ++ z))) S1) X) :
    WEp W Γ n N (.Call (.Attribute o x apos) [.Subscript (.Name xw pw) (.UnaryOp .USub (.Constant (.int 1) k1 p1) p2) p3, .BinOp (.Subscript (.Name xw qw) (.UnaryOp .USub (.Constant (.int 1) j1 q1) q2) q3) .Add (.Constant (.str z) kz pz) pa] [] pos) m S Q X := by
  subst hx
  intro hW hΓ B hd tl s ht hB hs
  refine MethodCall_ (pl := (do return (← importBound o Γ.ev).getD true)) (wpAny_mono (any_toks ht (h hW hΓ B hd tl s hB hs)) ?_ fun _ _ e => e.1) (meth_eq rfl rfl h3 (h4 _))
  rintro v s1 ⟨⟨_, _, tl1, x1, st1, r1, w, rfl, hw, rfl, q⟩, ht1⟩
  apply VR.on_str r1; intro s0 t e
  obtain rfl := eq_sOf e
  refine GM.replace (Calls.callWith_builtin rfl (Calls.evalArgs_plain ?_))
  show wpAny _ _ (spliced ((false, eval (.Subscript (.Name xw pw) (.UnaryOp .USub (.Constant (.int 1) k1 p1) p2) p3) Γ.ev) :: (false, eval (.BinOp (.Subscript (.Name xw qw) (.UnaryOp .USub (.Constant (.int 1) j1 q1) q2) q3) .Add (.Constant (.str z) kz pz) pa) Γ.ev) :: [])) _ _ _
  refine spliced_cons (wpAny_mono (last_raw hF hW hΓ hB hc hxw hdb hm hl hv hz st1 ht1) ?_ fun _ _ e => e)
  rintro _ s2 ⟨rfl, ⟨tl2, x2, st2⟩, ht2⟩
  refine spliced_cons (wpAny_BinOp (wpAny_mono (last_raw hF hW hΓ hB hc hxw hdb hm hl hv hz st2 ht2) ?_ fun _ _ e => e))
  rintro _ s3 ⟨rfl, ⟨tl3, x3, st3⟩, ht3⟩
  refine wpAny_Constant_str (PySem.P.add_str ?_)
  rw [hy, hzl]
  simp only [Bool.false_eq_true, if_false]
  refine ⟨by show (y ++ z).length ≤ _; rw [strLen_append, sizeLine_eq]; lia, spliced_nil ?_⟩
  have hn2 : (s3.toks + 1 : Nat) ≠ 0 := by lia
  have hn3 : (tk : Nat) ≠ s3.toks + 1 := Nat.ne_of_lt (Nat.lt_succ_of_le (Nat.le_of_lt (Nat.lt_of_lt_of_le hkN ht3)))
  refine PySem.SC.replace hk hn2 hn3 hyz ?_ fun t' k => ?_
  · rw [len_sOf]; exact bnd_repl hw (by rw [strLen_append]; lia)
  · exact (Post.val (st3.same _) (.str _ _ _ rfl) q k).ext ((x1.trans x2).trans x3)
end
end
section
open PySem PySem.W PySem.Calls PyProof.Rows PySem.NumText
structure Pot (S : Store) (p b : Addr) (is : List Int) (i : Nat) (sd : Int) : Prop where
  pot : S p = some (.lst [.ref b, .int (i : Int), .int sd])
  own : S b = some (.lst (is.map .int))
  len : is.length ≤ 63
  lo : 0 ≤ sd
  hi : sd ≤ 100000
theorem Pot.ne {S : Store} {p b : Addr} {is : List Int} {i : Nat} {sd : Int} (h : Pot S p b is i sd) : p ≠ b := by
  rintro rfl
  have := h.pot
  rw [h.own] at this
  cases is with
  | nil => cases this
  | cons _ _ => cases this
theorem Pot.put {S : Store} {p b : Addr} {is : List Int} {i i' : Nat} {sd sd' : Int} (h : Pot S p b is i sd) (h1 : 0 ≤ sd') (h2 : sd' ≤ 100000) : Pot (upd S p (.lst [.ref b, .int (i' : Int), .int sd'])) p b is i' sd' :=
  ⟨upd_same _ _ _, by rw [upd_ne h.ne.symm]; exact h.own, h.len, h1, h2⟩
section
variable {W : Wd} {Γ : Fc} {n : Nat} {m : Loc} {S : Store} {X : Int → Prop} {Q : AV → Store → Prop} {p b : Addr} {is : List Int} {i : Nat} {sd : Int}
theorem mod_nat {x : Int} {many : Nat} (hm : 1 ≤ many) {P : AV → Prop} (q : ∀ k : Nat, k < many → P (.int (k : Int))) : P (.int (Int.fmod x (many : Int))) := by
  have h0 : (0 : Int) < (many : Int) := by lia
  have h1 := Int.fmod_nonneg_of_pos x h0
  have h2 := Int.fmod_lt_of_pos x h0
  have e : Int.fmod x (many : Int) = (((Int.fmod x (many : Int)).toNat : Nat) : Int) := by lia
  rw [e]
  exact q _ (by lia)
theorem dip_ok {many : Nat} (hW : W.Ok) (hI : W.Is) (R : Pot S p b is i sd) (hm : 1 ≤ many)
    (q : ∀ (k i' : Nat) sd', k < many → 0 ≤ sd' → sd' ≤ 100000 → Q (.int (k : Int)) (upd S p (.lst [.ref b, .int (i' : Int), .int sd']))) : WK W Γ 1 (.ref f_law_dip) [.ref p, .int (many : Int)] m S Q X := by
  refine n_enter (fn_law_dip hW hI) nm_law_dip rfl fun Γ' hF => ?_
  refine s_cons ?_
  walk_at "ws"
  refine i_lst (i := 1) R.pot rfl ?_ (by show 3 ≤ 100000; decide)
  refine s_cons (n_setitem rfl ?_)
  walk_at "ws"
  refine b_addi ?_
  walk_at "ws"
  refine set_lst (i := 1) R.pot (by show 1 < 3; decide) (by show 3 ≤ 100000; decide) ?_
  have R2 := R.put (i' := i + 1) R.lo R.hi
  have e1 : (upd S p (.lst ([.ref b, .int (i : Int), .int sd].set 1 (.int ((i : Int) + 1))))) = upd S p (.lst [.ref b, .int ((i + 1 : Nat) : Int), .int sd]) := rfl
  rw [e1]
  walk_at "ws"
  refine i_lst (i := 0) R2.pot rfl ?_ (by show 3 ≤ 100000; decide)
  walk_at "ws"
  have hl := R.len
  refine f_len_lst R2.own ?_ (by rw [List.length_map]; lia)
  refine c_lti ⟨_, rfl, ite_b (fun h => ?_) fun _ => ?_⟩
  · walk_at "ws"
    refine i_lst (i := 0) R2.pot rfl ?_ (by show 3 ≤ 100000; decide)
    walk_at "ws"
    rw [List.length_map] at h
    have hi : i < is.length := by have := of_decide_eq_true h; lia
    refine i_lst (i := i) (av := .int is[i]) R2.own (by rw [List.getElem?_map, List.getElem?_eq_getElem hi]; rfl) ?_ (by rw [List.length_map]; lia)
    walk_at "ws"
    refine b_modi ?_ (by lia)
    exact mod_nat (P := fun a => RetQ Q (.ret a) _ _) hm fun k hk => ret_now (q k (i + 1) sd hk R.lo R.hi)
  · refine s_nil ?_
    refine s_cons (n_setitem rfl ?_)
    walk_at "ws"
    refine i_lst (i := 2) R2.pot rfl ?_ (by show 3 ≤ 100000; decide)
    walk_at "ws"
    refine b_muli ?_ (IntMulOk.of_right (by decide +kernel))
    walk_at "ws"
    refine b_addi ?_
    walk_at "ws"
    refine b_modi ?_ (by decide)
    walk_at "ws"
    refine set_lst (i := 2) R2.pot (by show 2 < 3; decide) (by show 3 ≤ 100000; decide) ?_
    rw [upd_upd]
    have h0 : (0 : Int) < 65537 := by decide
    have h1 := Int.fmod_nonneg_of_pos (sd * 75 + 74) h0
    have h2 := Int.fmod_lt_of_pos (sd * 75 + 74) h0
    revert h1 h2
    generalize Int.fmod (sd * 75 + 74) 65537 = sd2
    intro h1 h2
    have e2 : (upd S p (.lst ([.ref b, .int ((i + 1 : Nat) : Int), .int sd].set 2 (.int sd2)))) = upd S p (.lst [.ref b, .int ((i + 1 : Nat) : Int), .int sd2]) := rfl
    rw [e2]
    walk_at "ws"
    refine i_lst (i := 2) (upd_same _ _ _) rfl ?_ (by show 3 ≤ 100000; decide)
    walk_at "ws"
    refine b_modi ?_ (by lia)
    exact mod_nat (P := fun a => RetQ Q (.ret a) _ _) hm fun k hk => ret_now (q k (i + 1) sd2 hk h1 (by lia))
theorem names_ok (hW : W.Ok) (hI : W.Is) (q : ∀ l S', S l = none → Subs S S' → S' l = some (.lst (nmL.map .str)) → Q (.ref l) S') : WK W Γ 1 (.ref f_law_names) [] m S Q X := by
  refine n_enter (fn_law_names hW hI) nm_law_names rfl fun Γ' hF => ?_
  refine s_cons ?_
  walk_at "ws"
  refine e_listS ?_
  walk_at "ws"
  exact ⟨by show 3 ≤ 10000; decide, fun l S' h1 h2 h3 => ret_now (q l S' h1 h2 h3)⟩
noncomputable def gMod : AV → Option AV
  | .int i => some (.int (Int.fmod i 1009))
  | _ => none
theorem sum_mod : ∀ l : List Int, 0 ≤ (l.map fun i => Int.fmod i 1009).sum ∧ (l.map fun i => Int.fmod i 1009).sum ≤ l.length * 1009
  | [] => by simp
  | i :: l => by
    have h0 : (0 : Int) < 1009 := by decide
    have h1 := Int.fmod_nonneg_of_pos i h0
    have h2 := Int.fmod_lt_of_pos i h0
    have h3 := sum_mod l
    rw [List.map_cons, List.sum_cons, List.length_cons]
    lia
theorem pick63 (is : List Int) (hz : is.length ≤ 63) : pickA (is.map .int) none (some 63) = is.map .int := by
  show ((is.map AV.int).drop 0).take (min (63 : Int).toNat (is.map AV.int).length - 0) = _
  rw [List.drop_zero, List.length_map]
  have : min (63 : Int).toNat is.length - 0 = is.length := by
    have : (63 : Int).toNat = 63 := rfl
    lia
  rw [this, List.take_of_length_le (by rw [List.length_map]; lia)]
theorem pot_ok {scr : Addr} (hW : W.Ok) (hI : W.Is) (hs : LstAt W S scr (is.map .int)) (hz : is.length ≤ 63)
    (q : ∀ p b S' sd, S p = none → Subs S S' → Pot S' p b is 0 sd → Q (.ref p) S') : WK W Γ 2 (.ref f_law_pot) [.ref scr] m S Q X := by
  refine n_enter (fn_law_pot hW hI) nm_law_pot rfl fun Γ' hF => ?_
  refine s_cons ?_
  walk_at "ws"
  refine e_listS ?_
  refine ns_cons rfl (n_ty hF ?ker (bi_list hI) rfl (ns_cons rfl (e_lslice ?_)))
  case ker => kernel_rfl
  walk_at "ws"
  refine ⟨scr, is.map .int, _, _, rfl, .none, .int _, hs, by rw [List.length_map]; lia, fun l1 S1 h1 s1 e1 => ?_⟩
  rw [pick63 is hz] at e1
  walk_at "ws"
  refine f_list_lst e1 (fun l2 h2 => ?_) (by rw [List.length_map]; lia)
  have s2 := s1.new (y := .lst (is.map .int)) h2
  have e2 := upd_same S1 l2 (.lst (is.map .int))
  revert s2 e2
  generalize upd S1 l2 (.lst (is.map .int)) = S2
  intro s2 e2
  have hn2 : S l2 = none := by
    cases e : S l2 with
    | none => rfl
    | some z => rw [s1 _ _ e] at h2; cases h2
  walk_at "ws"
  refine e_map (cl := []) (by kernel_rfl) ?_ hF.blk
  refine e_lslice ?_
  walk_at "ws"
  have hs2 : LstAt W S2 scr (is.map .int) := hs.imp (fun h => s2 _ _ h) id
  refine ⟨scr, is.map .int, _, _, rfl, .none, .int _, hs2, by rw [List.length_map]; lia, fun l3 S3 h3 s3 e3 => ?_⟩
  rw [pick63 is hz] at e3
  have hne : l2 ≠ l3 := by rintro rfl; rw [e2] at h3; cases h3
  replace e2 := s3 _ _ e2
  have s3' := s2.trans s3
  refine ⟨_, _, _, src_lst e3 (.name _ _ _), by rw [List.length_map]; lia, gMod, ?_, ?_⟩
  · intro k av C D acc hk hCD hC hD
    rw [List.getElem?_map, Option.map_eq_some_iff] at hk
    obtain ⟨i, hi, rfl⟩ := hk
    refine to_blk hF (upd_same _ _ _) (by simp) ?_
    rw [upd_upd]
    refine ⟨rfl, _, rfl, .none _ ⟨rfl, rfl, fun _ => ?_⟩⟩
    refine e_bin (isTy_blk hF (bi_int hI) rfl (ns_cons rfl (name_blk hF (upd_same _ _ _) (.head _) (es_nil (f_inti ?_)))))
    exact e_int (b_modi ⟨rfl, Subs.refl _⟩ (by decide))
  · intro D hD hfin
    have eg : (is.map AV.int).filterMap gMod = (is.map fun i => Int.fmod i 1009).map .int := by
      rw [List.map_map]; exact fm_enc fun a _ => rfl
    rw [eg] at hfin ⊢
    have hDD := hfin D _ (upd_same _ _ _)
    refine ⟨_, Subs.refl _, ?_⟩
    have e4 : (upd (upd (del S3 l3) D (.lst ((is.map fun i => Int.fmod i 1009).map .int))) l3 (.lst (is.map .int))) l2 = some (.lst (is.map .int)) := by
      have h4 : del S3 l3 l2 = some (.lst (is.map .int)) := by unfold del; rw [if_neg hne]; exact e2
      rw [upd_ne hne, upd_ne (by rintro rfl; rw [hD] at h4; cases h4)]; exact h4
    have s4 : Subs S (upd (upd (del S3 l3) D (.lst ((is.map fun i => Int.fmod i 1009).map .int))) l3 (.lst (is.map .int))) := fun x y h => by
      have h4 := s3' x y h
      have h5 : x ≠ l3 := by rintro rfl; rw [s2 _ _ h] at h3; cases h3
      have h6 : del S3 l3 x = some y := by unfold del; rw [if_neg h5]; exact h4
      rw [upd_ne h5, upd_ne (by rintro rfl; rw [hD] at h6; cases h6)]; exact h6
    revert hDD e4 s4
    generalize (upd (upd (del S3 l3) D (.lst ((is.map fun i => Int.fmod i 1009).map .int))) l3 (.lst (is.map .int))) = S4
    intro hDD e4 s4
    walk_at "ws"
    refine f_sum hDD ?_
    walk_at "ws"
    refine b_addi ?_
    walk_at "ws"
    refine ⟨by show 3 ≤ 10000; decide, fun p S5 h5 s5 e5 => ?_⟩
    have hp : S p = none := by
      cases e : S p with
      | none => rfl
      | some z => rw [s4 _ _ e] at h5; cases h5
    have h6 := sum_mod is
    exact ret_now (q p l2 S5 _ hp (s4.trans s5) ⟨e5, s5 _ _ e4, hz, by lia, by lia⟩)
end
end
section
open PySem PySem.W PySem.Calls PyProof.Rows PySem.NumText
local macro_rules | `(tactic| walk_at "tl") => `(tactic| repeat (first | walk_at "w" | refine e_tuple ?_ | refine ⟨Nat.le_of_ble_eq_true rfl, ?_⟩))
noncomputable def someI : List Ins := [⟨[99, 111, 110, 115, 116], [.num 1, .num 2]⟩, ⟨[109, 111, 118, 101], [.num 2, .num 1]⟩, ⟨[103, 108, 111, 98, 97, 108], [.num 3, .num 0]⟩, ⟨[115, 101, 116, 103, 108, 111, 98, 97, 108], [.num 1, .num 2]⟩, ⟨[100, 101, 102, 105, 110, 101], [.num 0, .num 3]⟩, ⟨[102, 114, 101, 101], [.num 1, .num 0]⟩,
  ⟨[99, 108, 111, 115, 117, 114, 101], [.num 2, .num 0, .nums [1, 3]]⟩, ⟨[102, 105, 120], [.rows [(1, 0, [2]), (2, 1, [])]]⟩, ⟨[112, 114, 105, 109], [.num 1, .num 2, .nums [1, 2]]⟩]
noncomputable def lastI : List Ins := [⟨[112, 114, 105, 109], [.num 0, .num 1, .nums [2]]⟩, ⟨[98, 114, 97, 110, 99, 104, 102, 97, 108, 115, 101], [.num 1, .num 0]⟩, ⟨[103, 105, 118, 101], [.num 0, .nums [1]]⟩]
noncomputable def stepsI (f e : Nat) : List Ins := ((someI ++ someI).drop f).take (1 + e) ++ lastI
noncomputable abbrev encL (l : List Ins) : List AV := (l.map encI).map .tup
section
variable {W : Wd} {Γ : Fc} {n : Nat} {m : Loc} {S : Store} {X : Int → Prop} {Q : AV → Store → Prop} {p b : Addr} {is : List Int} {i : Nat} {sd : Int}
theorem Pot.mono {S S' : Store} {p b : Addr} {is : List Int} {i : Nat} {sd : Int} (h : Pot S p b is i sd) (k : Subs S S') : Pot S' p b is i sd := ⟨k _ _ h.pot, k _ _ h.own, h.len, h.lo, h.hi⟩
theorem Subs.kp {d : Addr} {S S' : Store} (k : Subs S S') : Kp d S S' := fun x y _ e => k x y e
theorem pick_enc (l : List Ins) (f e : Nat) (h : f + 1 + e ≤ l.length) : pickA (encL l) (some (f : Int)) (some ((f : Int) + 1 + (e : Int))) = encL ((l.drop f).take (1 + e)) := by
  have e1 : (encL l).length = l.length := by rw [List.length_map, List.length_map]
  have h1 : kms_lo (some (f : Int)) (encL l).length = f := by
    unfold kms_lo
    rw [e1]
    show (if (f : Int) < 0 then _ else min (f : Int).toNat l.length) = f
    rw [if_neg (by lia), Int.toNat_natCast]; lia
  have h2 : kms_hi (some ((f : Int) + 1 + (e : Int))) (encL l).length = f + 1 + e := by
    unfold kms_hi
    rw [e1]
    show (if (f : Int) + 1 + (e : Int) < 0 then _ else min ((f : Int) + 1 + (e : Int)).toNat l.length) = f + 1 + e
    rw [if_neg (by lia), show ((f : Int) + 1 + (e : Int)).toNat = f + 1 + e by lia]; lia
  unfold pickA
  rw [h1, h2, show f + 1 + e - f = 1 + e by lia]
  unfold encL
  simp only [List.map_take, List.map_drop]
theorem steps_ok (hW : W.Ok) (hI : W.Is) (R : Pot S p b is i sd)
    (q : ∀ (f e : Nat) l S' i' sd', f < 9 → e < 3 → S l = none → Kp p S S' → Pot S' p b is i' sd' → S' l = some (.lst (encL (stepsI f e))) → Q (.ref l) S') : WK W Γ 2 (.ref f_law_steps) [.ref p] m S Q X := by
  refine n_enter (fn_law_steps hW hI) nm_law_steps rfl fun Γ' hF => ?_
  refine s_cons ?_
  walk_at "ws"
  refine e_listS ?_
  walk_at "tl"
  intro l1 S1 _ s1 e1
  replace e1 : S1 l1 = some (.lst (encL (someI.take 6))) := e1
  walk_at "ws"
  refine e_listS ?_
  walk_at "tl"
  intro l2 S2 _ s2 e2
  replace e2 : S2 l2 = some (.lst (encL (someI.drop 6))) := e2
  refine b_addlS (s2 _ _ e1) e2 (Nat.le_of_ble_eq_true rfl) fun l3 S3 _ s3 e3 => ?_
  replace e3 : S3 l3 = some (.lst (encL someI)) := e3
  replace s3 := (s1.trans s2).trans s3
  have R3 := R.mono s3
  have k3 : Kp p S S3 := s3.kp
  have hlp : l3 ≠ p := by rintro rfl; rw [R3.pot] at e3; cases e3
  clear s1 e1 s2 e2
  walk_at "ws"
  refine (dip_ok (many := 9) hW hI R3 (by decide) fun f i1 sd1 hf h1 h2 => ?_).toF
  have R4 := R3.put (i' := i1) h1 h2
  have k4 := k3.at (y := .lst [.ref b, .int (i1 : Int), .int sd1])
  replace e3 : upd S3 p (.lst [.ref b, .int (i1 : Int), .int sd1]) l3 = some (.lst (encL someI)) := by rw [upd_ne hlp]; exact e3
  revert R4 k4 e3
  generalize upd S3 p (.lst [.ref b, .int (i1 : Int), .int sd1]) = S4
  intro R4 k4 e3
  refine s_cons (n_assign (i := 3) hF ?ix rfl (e_lslice ?_))
  case ix => walk_at "ix"
  walk_at "ws"
  refine b_addlS e3 e3 (Nat.le_of_ble_eq_true rfl) fun l5 S5 _ s5 e5 => ?_
  have R5 := R4.mono s5
  have hl5 : l5 ≠ p := by rintro rfl; rw [R5.pot] at e5; cases e5
  walk_at "ws"
  refine b_addi ?_
  walk_at "ws"
  refine (dip_ok (many := 3) hW hI R5 (by decide) fun e i2 sd2 he h3 h4 => ?_).toF
  refine b_addi ?_
  refine ⟨l5, encL (someI ++ someI), _, _, rfl, .int _, .int _, .inl (by rw [upd_ne hl5, e5, ← List.map_append, ← List.map_append]), Nat.le_of_ble_eq_true rfl, fun l6 S6 _ s6 e6 => ?_⟩
  rw [pick_enc _ f e (by show f + 1 + e ≤ 18; lia)] at e6
  have R6 := (R5.put (i' := i2) h3 h4).mono s6
  have k6 := ((k4.trans s5.kp).at (y := .lst [.ref b, .int (i2 : Int), .int sd2])).trans s6.kp
  walk_at "ws"
  refine e_listS ?_
  walk_at "tl"
  intro l7 S7 _ s7 e7
  replace e7 : S7 l7 = some (.lst (encL lastI)) := e7
  refine b_addlS (s7 _ _ e6) e7 (by rw [List.length_map, List.length_map, List.length_take]; show _ + 3 ≤ 10000; lia) fun l8 S8 h8 s8 e8 => ?_
  have k7 := k6.trans s7.kp
  have hl8 : S l8 = none := by
    by_cases h : l8 = p
    · rw [h, (R6.mono s7).pot] at h8; cases h8
    · cases e9 : S l8 with
      | none => rfl
      | some z => rw [k7 _ _ h e9] at h8; cases h8
  refine ret_now (q f e l8 S8 i2 sd2 hf he hl8 (k7.trans s8.kp) ((R6.mono s7).mono s8) ?_)
  rw [e8, ← List.map_append, ← List.map_append]; rfl
end
end
section
open PySem PySem.W PySem.Calls PyProof.Rows PySem.NumText
section
variable {W : Wd} {Γ : Fc} {n N : Nat} {m : Loc} {S : Store} {X : Int → Prop} {Q : AV → Store → Prop} {cs : Scope} {ns : List Str} {cl : List (Str × Addr)}
theorem raw_at {l : Addr} {vs : List Value} {hd tl : Led} {s : Shared} (hl : S l = some (.raw (listOf vs.toArray 0))) (st : St W Γ hd tl m S s) : s.heap.IsList l vs.toArray := by
  obtain ⟨mc, cs', k⟩ := st
  obtain ⟨o, ho, r⟩ := k.obj hl
  cases r
  exact ⟨_, (k.nw _ (List.mem_append_right _ ho)).1, rfl, _, rfl⟩
theorem f_len_raw {l : Addr} {vs : List Value} (hl : S l = some (.raw (listOf vs.toArray 0))) (hz : vs.length ≤ 10000) (q : Q (.int vs.length) S) : WF W Γ n (.builtin "len") [.ref l] m S Q X := fun _ _ _ _ _ _ _ _ st r => by
  apply VRs.on1 r; intro v rv
  apply VR.on_ref rv
  exact PyProof.Rows.len_list (raw_at hl st) (by rw [List.size_toArray]; lia) (by rw [List.size_toArray]; exact .val st (.int _ _) q _)
theorem i_raw {value slice : Expr} {l : Addr} {vs : List Value} {i : Nat} {y : Str} {t : Tok} (hl : S l = some (.raw (listOf vs.toArray 0))) (hi : vs[i]? = some (.str y t)) (hz : vs.length ≤ 10000) (q : Q (.str y.cps.toList) S)
    (hs : ∀ a k u, subscripted slice false (.ref a) (.int k u) = operate [.ref a, .int k u] (getItem (.ref a) (.int k u)) := by intros; kernel_rfl) : WI W Γ n value slice (.ref l) (.int (i : Int)) m S Q X := fun _ _ _ _ _ _ _ _ _ st r1 r2 => by
  apply VR.on_ref r1
  (apply VR.on_int r2; intro _)
  have hlt := (List.getElem?_eq_some_iff.mp hi).1
  have hL := raw_at hl st
  exact tail_any hL.typeIs slot_list_getitem.lookup (wpAny_getItem_list hL (by lia) (by lia) (by simpa using hi) (.now st (.str _ _ _ rfl) q)) (hs _ _ _)
theorem WS.weak {ss : List Stmt} {l : Addr} {vs : List Value} {ys : List Str} {Q : Fl → Loc → Store → Prop} (hl : S l = some (.raw (listOf vs.toArray 0))) (r : StrsAre vs ys) (h : WS W Γ n ss m (upd S l (.lst ((ys.map (·.cps.toList)).map .str))) Q X) : WS W Γ n ss m S Q X := by
  intro hW hΓ B hd tl s hB hs
  refine h hW hΓ B hd tl s hB ?_
  obtain ⟨mc, cs', k⟩ := hs
  obtain ⟨o, ho, ro⟩ := k.obj hl
  cases ro
  exact ⟨mc, cs', k.reAO ho (.lst _ 0 _ (vrs_strs r))⟩
end
end
section
open PySem PySem.W PySem.Calls PyProof.Rows PySem.NumText
noncomputable def idxs (ws : List (List Nat)) : List Nat := (List.range ws.length).filter fun i => nmL.any (· == ws.getD i [])
noncomputable def lastT (w : List Nat) : List Nat := match idxs (splitT w t_4) with
  | i :: _ => joinT [32] ((splitT w t_4).set i [99, 97, 114, 115])
  | [] => match (Txt.split (sOf w) t_4).getLast? with
    | some y => replT w y (y ++ t_3)
    | none => []
noncomputable def wrongT (way : Nat) (w : List Nat) : List Nat :=
  if (w.take 9 == [112, 114, 111, 99, 101, 100, 117, 114, 101]) = true then [[112, 114, 111, 99, 101, 100, 117, 101, 114] ++ w.drop 9, replT w t_16 t_17, replT w t_18 t_19, replT w a_registers a_register].getD way []
  else if (w == [101, 110, 100]) = true then [[101, 110, 100, 115], [101, 110, 100, 32, 101, 110, 100], [101, 110, 100, 32, 49], [101]].getD way []
  else if (way == 0) = true then (if (!hasSub [32, 112, 114, 105, 109, 32] w) = true then repl1T w a_r a_q else replT w a_prim a_prims)
  else if (way == 1) = true then w ++ [32, 114, 49]
  else if (way == 2) = true then [76, 57, 32] ++ stripT w
  else lastT w
noncomputable def lastOk (w : List Nat) : Bool := match (Txt.split (sOf w) t_4).getLast? with
  | some y => !(y.length == 0) && Nat.ble y.length 400
  | none => false
noncomputable def lineOk (w : List Nat) : Bool := Nat.ble w.length 500 && ((w == [101, 110, 100]) || (Nat.ble (repl1T w a_r a_q).length 1000 && (splitFound w t_4 && (lastOk w && Nat.ble (((splitT w t_4).map List.length).sum) 1000))))
noncomputable def gIdx (ws : List (List Nat)) : AV → Option AV
  | .int i => if nmL.any (· == ws.getD i.toNat []) = true then some (.int i) else none
  | _ => none
theorem fm_idx (ws : List (List Nat)) : ∀ l : List Nat, (l.map fun (i : Nat) => AV.int (i : Int)).filterMap (gIdx ws) = ((l.filter fun i => nmL.any (· == ws.getD i [])).map fun (i : Nat) => (i : Int)).map .int
  | [] => rfl
  | i :: l => by
    have h0 : gIdx ws (.int (i : Int)) = if nmL.any (· == ws.getD i []) = true then some (.int (i : Int)) else none := by
      show (if nmL.any (· == ws.getD ((i : Int)).toNat []) = true then some (AV.int (i : Int)) else none) = _
      rw [Int.toNat_natCast]
    rw [List.map_cons, List.filterMap_cons, h0, fm_idx ws l, List.filter_cons]
    cases h : nmL.any (· == ws.getD i []) with
    | true => rfl
    | false => rfl
theorem strsFrom_str {k i : Nat} {l : List Str} {v : Value} (h : (strsFrom k l)[i]? = some v) : ∃ y t, v = .str y t := by
  induction l generalizing k i with
  | nil => exact nomatch (show (none : Option Value) = some v from h)
  | cons x r ih => cases i with
  | zero => exact ⟨_, _, (Option.some.inj h).symm⟩
  | succ i => exact ih (k := k + 1) (i := i) h
theorem way_eq (a b : Nat) : ((a : Int) == (b : Int)) = (a == b) := by
  rw [Bool.eq_iff_iff, beq_iff_eq, beq_iff_eq]; lia
theorem at_repl : Str.ofString "replace" = a_replace := by kernel_rfl
theorem at_split : Str.ofString "split" = a_split := by kernel_rfl
theorem at_strip : Str.ofString "strip" = a_strip := by kernel_rfl
section
variable {W : Wd} {Γ : Fc} {n : Nat} {m : Loc} {S : Store} {X : Int → Prop} {Q : AV → Store → Prop} {p b : Addr} {is : List Int} {i : Nat} {sd : Int} {w : List Nat}
theorem wrong_ok (hW : W.Ok) (hI : W.Is) (R : Pot S p b is i sd) (hw : lineOk w = true)
    (q : ∀ (way : Nat) S' i' sd', way < 4 → Kp p S S' → Pot S' p b is i' sd' → Q (.str (wrongT way w)) S') : WK W Γ 2 (.ref f_law_wrong) [.ref p, .str w] m S Q X := by
  unfold lineOk at hw
  rw [Bool.and_eq_true] at hw
  obtain ⟨hz0, hw⟩ := hw
  have hz : w.length ≤ 500 := Nat.le_of_ble_eq_true hz0
  refine n_enterC (fn_law_wrong hW hI) nm_law_wrong rfl (m0 := [some (.ref p), some (.str w), none, none]) (cv := none) (fun j x av h1 h2 => ?_) (show a_words ∉ pnames args_law_wrong by decide +kernel) fun Γ' c hF hc => ?_
  · match j, h1, h2 with
    | 0, h1, h2 => cases h1; cases h2; exact ⟨0, by kernel_rfl, rfl⟩
    | 1, h1, h2 => cases h1; cases h2; exact ⟨1, by kernel_rfl, rfl⟩
    | 2, h1, h2 => cases h2
    | 3, h1, h2 => cases h2
    | j + 4, h1, h2 => cases h2
  have lk : ([(a_words, c)] : List (Str × Addr)).lookup a_words = some c := by kernel_rfl
  have hcp : c ≠ p := by rintro rfl; rw [R.pot] at hc; cases hc
  have s0 : Subs S (upd S c (.cell none)) := (Subs.refl S).new hc
  have R0 := R.mono s0
  refine p_first (i := 2) (j := 0) (g := f_law_dip) hF ?ix ?gx (gl_law_dip hI) (kp_law_dip hI) ?iy rfl ?_
  case ix => walk_at "ix"
  case gx => kernel_rfl
  case iy => walk_at "ix"
  refine (dip_ok (many := 4) hW hI R0 (by decide) fun way i1 sd1 hway h1 h2 => ?_).toF
  have R1 := R0.put (i' := i1) h1 h2
  have k1 := (s0.kp (d := p)).at (y := .lst [.ref b, .int (i1 : Int), .int sd1])
  have ec1 : upd (upd S c (.cell none)) p (.lst [.ref b, .int (i1 : Int), .int sd1]) c = some (.cell none) := by rw [upd_ne hcp, upd_same]
  revert R1 k1 ec1
  generalize upd (upd S c (.cell none)) p (.lst [.ref b, .int (i1 : Int), .int sd1]) = S1
  intro R1 k1 ec1
  refine p_split (c := c) (v0 := none) hF lk (by kernel_rfl) ec1 at_split ?a1 (fun _ => rfl) ?a2 (Nat.le_refl _) ?_
  case a1 => rfl
  case a2 => rfl
  walk_at "ws"
  refine ⟨w, rfl, by lia, rfl, fun l vs N' hl hN hvs hf => ?_⟩
  have hlc : l ≠ c := by rintro rfl; rw [ec1] at hl; cases hl
  have hlp : l ≠ p := by rintro rfl; rw [R1.pot] at hl; cases hl
  have hbc : b ≠ c := by rintro rfl; have := R1.own; rw [ec1] at this; cases this
  have hbl : b ≠ l := by rintro rfl; have := R1.own; rw [hl] at this; cases this
  have R2 : Pot (upd (upd S1 l (.raw (listOf vs.toArray 0))) c (.cell (some (.ref l)))) p b is i1 sd1 := ⟨by rw [upd_ne hcp.symm, upd_ne hlp.symm]; exact R1.pot, by rw [upd_ne hbc, upd_ne hbl]; exact R1.own, R1.len, R1.lo, R1.hi⟩
  have hSl : S l = none := by
    cases e : S l with
    | none => rfl
    | some z => rw [k1 _ _ hlp e] at hl; cases hl
  have k2 : Kp p S (upd (upd S1 l (.raw (listOf vs.toArray 0))) c (.cell (some (.ref l)))) := (k1.new hSl).new hc
  have ec2 := upd_same (upd S1 l (.raw (listOf vs.toArray 0))) c (.cell (some (.ref l)))
  have el2 : upd (upd S1 l (.raw (listOf vs.toArray 0))) c (.cell (some (.ref l))) l = some (.raw (listOf vs.toArray 0)) := by rw [upd_ne hlc, upd_same]
  revert R2 k2 ec2 el2
  generalize upd (upd S1 l (.raw (listOf vs.toArray 0))) c (.cell (some (.ref l))) = S2
  intro R2 k2 ec2 el2
  have fin : ∀ S', Subs S2 S' → Q (.str (wrongT way w)) S' := fun S' s => q way S' i1 sd1 hway (k2.trans s.kp) (R2.mono s)
  refine p_cons (p_if ?_)
  walk_at "ws"
  refine ⟨w, none, some 9, rfl, rfl, rfl, by lia, ?_⟩
  walk_at "ws"
  refine c_eqs ⟨_, rfl, ite_b (fun hA => ?_) fun hA => ?_⟩
  · refine p_cons (p_ret (p_sub (p_list (ps_cons rfl (WE.p ?_)))))
    walk_at "ws"
    refine ⟨w, some 9, none, rfl, rfl, rfl, by lia, ?_⟩
    refine b_adds ?_ (by show 9 + (w.drop 9).length ≤ _; rw [List.length_drop]; lia)
    refine ps_cons rfl (p_repl at_repl ?a3 (fun _ => rfl) hN ?a4 ?a5 ?_)
    case a3 => rfl
    case a4 => kernel_rfl
    case a5 => exact Nat.le_of_ble_eq_true rfl
    walk_at "ws"
    refine ⟨w, rfl, by lia, ?_⟩
    refine ps_cons rfl (p_repl at_repl ?b3 (fun _ => rfl) hN ?b4 ?b5 ?_)
    case b3 => rfl
    case b4 => kernel_rfl
    case b5 => exact Nat.le_of_ble_eq_true rfl
    walk_at "ws"
    refine ⟨w, rfl, by lia, ?_⟩
    refine ps_cons rfl (p_repl at_repl ?c3 (fun _ => rfl) hN ?c4 ?c5 ?_)
    case c3 => rfl
    case c4 => kernel_rfl
    case c5 => exact Nat.le_of_ble_eq_true rfl
    walk_at "ws"
    refine ⟨w, rfl, by lia, ps_nil ⟨Nat.le_of_ble_eq_true rfl, fun l4 S4 _ s4 e4 => ?_⟩⟩
    walk_at "ws"
    refine i_lst (i := way) (av := .str (wrongT way w)) e4 ?_ (ret_now (fin _ s4)) (Nat.le_of_ble_eq_true rfl)
    replace hA : (w.take 9 == [112, 114, 111, 99, 101, 100, 117, 114, 101]) = true := hA
    unfold wrongT
    rw [if_pos hA]
    match way, hway with
    | 0, _ => rfl
    | 1, _ => rfl
    | 2, _ => rfl
    | 3, _ => rfl
  replace hA : (w.take 9 == [112, 114, 111, 99, 101, 100, 117, 114, 101]) = false := hA
  refine WS.p (s_nil ?_)
  refine p_cons (W1.p (s_if ?_))
  walk_at "ws"
  refine c_eqs ⟨_, rfl, ite_b (fun hB => ?_) fun hB => ?_⟩
  · walk_at "ws"
    refine e_listS ?_
    walk_at "ws"
    refine ⟨Nat.le_of_ble_eq_true rfl, fun l4 S4 _ s4 e4 => ?_⟩
    walk_at "ws"
    refine i_lst (i := way) (av := .str (wrongT way w)) e4 ?_ (ret_now (fin _ s4)) (Nat.le_of_ble_eq_true rfl)
    unfold wrongT
    rw [if_neg (by rw [hA]; decide), if_pos hB]
    match way, hway with
    | 0, _ => rfl
    | 1, _ => rfl
    | 2, _ => rfl
    | 3, _ => rfl
  refine s_nil ?_
  rw [hB, Bool.false_or, Bool.and_eq_true, Bool.and_eq_true, Bool.and_eq_true] at hw
  obtain ⟨w1, w2, w3, w4⟩ := hw
  refine p_cons (p_if ?_)
  walk_at "ws"
  refine c_eqi ⟨_, rfl, ite_b (fun hC => ?_) fun hC => ?_⟩
  · replace hC : (way == 0) = true := (way_eq way 0).symm.trans hC
    refine p_cons (p_ret (p_ifx ?_))
    walk_at "ws"
    refine c_nins ⟨_, rfl, ite_b (fun hD => ?_) fun hD => ?_⟩
    · refine p_repl1 at_repl ?d3 (fun _ => rfl) hN ?d4 ?d5 ?_
      case d3 => rfl
      case d4 => kernel_rfl
      case d5 => exact Nat.le_of_ble_eq_true rfl
      walk_at "ws"
      refine ⟨w, rfl, by lia, Nat.le_trans (Nat.le_of_ble_eq_true w1) (by decide), ?_⟩
      have e : wrongT way w = repl1T w a_r a_q := by
        unfold wrongT
        rw [if_neg (by rw [hA]; decide), if_neg (by rw [hB]; decide), if_pos hC, if_pos hD]
      rw [← e]; exact ret_now (fin _ (Subs.refl _))
    · refine p_repl at_repl ?e3 (fun _ => rfl) hN ?e4 ?e5 ?_
      case e3 => rfl
      case e4 => kernel_rfl
      case e5 => exact Nat.le_of_ble_eq_true rfl
      walk_at "ws"
      refine ⟨w, rfl, by lia, ?_⟩
      have e : wrongT way w = replT w a_prim a_prims := by
        unfold wrongT
        rw [if_neg (by rw [hA]; decide), if_neg (by rw [hB]; decide), if_pos hC, if_neg (by rw [hD]; decide)]
      rw [← e]; exact ret_now (fin _ (Subs.refl _))
  replace hC : (way == 0) = false := (way_eq way 0).symm.trans hC
  refine WS.p (s_nil ?_)
  refine p_cons (W1.p (s_if ?_))
  walk_at "ws"
  refine c_eqi ⟨_, rfl, ite_b (fun hD => ?_) fun hD => ?_⟩
  · replace hD : (way == 1) = true := (way_eq way 1).symm.trans hD
    walk_at "ws"
    refine b_adds ?_ (by show w.length + 3 ≤ _; lia)
    have e : wrongT way w = w ++ [32, 114, 49] := by
      unfold wrongT
      rw [if_neg (by rw [hA]; decide), if_neg (by rw [hB]; decide), if_neg (by rw [hC]; decide), if_pos hD]
    rw [← e]; exact ret_now (fin _ (Subs.refl _))
  replace hD : (way == 1) = false := (way_eq way 1).symm.trans hD
  refine s_nil ?_
  refine p_cons (W1.p (s_if ?_))
  walk_at "ws"
  refine c_eqi ⟨_, rfl, ite_b (fun hE => ?_) fun hE => ?_⟩
  · replace hE : (way == 2) = true := (way_eq way 2).symm.trans hE
    refine s_cons (s_ret (e_bin (e_str tx_t_24 (n_strip at_strip ?f3 ?f4 ?_))))
    case f3 => rfl
    case f4 => exact fun _ => rfl
    walk_at "ws"
    have hsl : (stripT w).length ≤ w.length := Nat.le_trans (len_strip (sOf w)) (Nat.le_of_eq (len_sOf w))
    refine ⟨w, rfl, by lia, b_adds ?_ (by show 3 + (stripT w).length ≤ _; lia)⟩
    have e : wrongT way w = [76, 57, 32] ++ stripT w := by
      unfold wrongT
      rw [if_neg (by rw [hA]; decide), if_neg (by rw [hB]; decide), if_neg (by rw [hC]; decide), if_neg (by rw [hD]; decide), if_pos hE]
    rw [← e]; exact ret_now (fin _ (Subs.refl _))
  replace hE : (way == 2) = false := (way_eq way 2).symm.trans hE
  refine s_nil ?_
  have eL : wrongT way w = lastT w := by
    unfold wrongT
    rw [if_neg (by rw [hA]; decide), if_neg (by rw [hB]; decide), if_neg (by rw [hC]; decide), if_neg (by rw [hD]; decide), if_neg (by rw [hE]; decide)]
  obtain ⟨k, hk1, hvk, hkN⟩ := hf w2
  have hlen : vs.length = (splitT w t_4).length := by rw [hvk, strsFrom_len]; unfold splitT; rw [List.length_map]
  have hzs : (splitT w t_4).length ≤ 1000 := by
    have := split_le (sOf w) t_4
    rw [len_sOf] at this
    unfold splitT; rw [List.length_map]; lia
  refine p_cons (W1.p (s_map (i := 3) (hF.ns ▸ ?ix) (cl := [(a_words, c)]) (by rw [ev_cells hF]; kernel_rfl) (by rw [← Fc.ev_env hF.blk, ev_scope hF]; kernel_rfl) ?_ hF.blk))
  case ix => walk_at "ix"
  walk_at "ws"
  refine n_cell hF (c := c) lk (by kernel_rfl) rfl ec2 ?_
  walk_at "ws"
  refine f_len_raw el2 (by lia) ?_
  walk_at "ws"
  refine f_range (k := vs.length) fun r t1 t2 t3 hr => ?_
  refine ⟨_, _, _, src_rng (upd_same _ _ _) (by lia), by rw [List.length_map, List.length_range]; lia, gIdx (splitT w t_4), ?_, ?_⟩
  · intro j av C D acc hj hCD hC hD
    rw [List.getElem?_map, Option.map_eq_some_iff] at hj
    obtain ⟨i, hi, rfl⟩ := hj
    have hil : i < vs.length := by
      have := List.mem_of_getElem? hi
      exact List.mem_range.mp this
    have keepS : ∀ {x y ff}, S2 x = some y → upd (upd (upd S2 r (.raw (rngObj vs.length t1 t2 t3))) D (.lst acc)) C (.ns ff) x = some y := by
      intro x y ff e
      have h0 : x ≠ r := by rintro rfl; rw [hr] at e; cases e
      have hx : upd S2 r (.raw (rngObj vs.length t1 t2 t3)) x = some y := by rw [upd_ne h0]; exact e
      have h1 : x ≠ C := by rintro rfl; rw [hC] at hx; cases hx
      have h2 : x ≠ D := by rintro rfl; rw [hD] at hx; cases hx
      rw [upd_ne h1, upd_ne h2]; exact hx
    have hvi : ∃ y t, vs[i]? = some (.str y t) ∧ (splitT w t_4).getD i [] = y.cps.toList := by
      have h5 : vs[i]? = some vs[i] := List.getElem?_eq_getElem hil
      have h6 : (Txt.split (sOf w) t_4).length = vs.length := by rw [hvk, strsFrom_len]
      obtain ⟨y, t, h7⟩ : ∃ y t, vs[i] = .str y t := strsFrom_str (by rw [← hvk]; exact h5)
      rw [h7] at h5
      have h8 := h5
      rw [hvk] at h8
      refine ⟨y, t, h5, ?_⟩
      unfold splitT
      rw [List.getD_eq_getElem?_getD, List.getElem?_map, (strsFrom_at h8).1]; rfl
    obtain ⟨y, t, hy, hy2⟩ := hvi
    have hg : gIdx (splitT w t_4) (.int (i : Int)) = if nmL.any (· == y.cps.toList) = true then some (.int (i : Int)) else none := by
      show (if nmL.any (· == (splitT w t_4).getD ((i : Int)).toNat []) = true then some (AV.int (i : Int)) else none) = _
      rw [Int.toNat_natCast, hy2]
    refine to_blk hF (upd_same _ _ _) (by simp) ?_
    rw [upd_upd]
    refine ⟨rfl, _, rfl, .one _ _ ?_⟩
    refine nt_cmp rfl (e_sub (free_blk hF (c := c) lk (keepS ec2) (name_blk hF (upd_same _ _ _) (.head _) (i_raw (keepS el2) hy (by lia) ?_))))
    refine e_tuple ?_
    walk_at "ws"
    refine ⟨Nat.le_of_ble_eq_true rfl, ?_⟩
    refine c_int (ys := nmL) ⟨_, rfl, rfl, ?_, fun h => ?_⟩
    · rw [hg]; cases nmL.any (· == y.cps.toList) <;> rfl
    · refine name_blk hF (upd_same _ _ _) (.head _) ⟨?_, Subs.refl _⟩
      rw [hg, if_pos h]
  · intro D hD hfin
    rw [fm_idx] at hfin ⊢
    have eD := upd_same (upd S2 r (.raw (rngObj vs.length t1 t2 t3))) D (.lst ((((List.range vs.length).filter fun i => nmL.any (· == (splitT w t_4).getD i [])).map fun (i : Nat) => (i : Int)).map .int))
    have s3 : Subs S2 (upd (upd S2 r (.raw (rngObj vs.length t1 t2 t3))) D (.lst ((((List.range vs.length).filter fun i => nmL.any (· == (splitT w t_4).getD i [])).map fun (i : Nat) => (i : Int)).map .int))) := ((Subs.refl S2).new hr).new hD
    refine ⟨upd (upd S2 r (.raw (rngObj vs.length t1 t2 t3))) D (.lst ((((List.range vs.length).filter fun i => nmL.any (· == (splitT w t_4).getD i [])).map fun (i : Nat) => (i : Int)).map .int)), Subs.refl _, ?_⟩
    revert eD s3
    generalize (upd (upd S2 r (.raw (rngObj vs.length t1 t2 t3))) D (.lst ((((List.range vs.length).filter fun i => nmL.any (· == (splitT w t_4).getD i [])).map fun (i : Nat) => (i : Int)).map .int))) = S4
    intro eD s4
    have hix : ((List.range vs.length).filter fun i => nmL.any (· == (splitT w t_4).getD i [])) = idxs (splitT w t_4) := by rw [hlen]; rfl
    rw [hix] at eD
    refine p_cons (p_if ?_)
    walk_at "ws"
    refine e_listS (es_nil ⟨Nat.zero_le _, fun l5 S5 _ s5 e5 => ?_⟩)
    replace eD := s5 _ _ eD
    replace s5 := s4.trans s5
    refine c_nel (ds := ((idxs (splitT w t_4)).map fun (i : Nat) => (i : Int)).map Dat.int) (es := []) eD e5 (rds_int _ _) .nil (int_ok _) (fun d h => absurd h List.not_mem_nil) fun cc hcc => ?_
    have elst : ∀ av : AV, lastT w = (match idxs (splitT w t_4) with | i :: _ => joinT [32] ((splitT w t_4).set i [99, 97, 114, 115]) | [] => match (Txt.split (sOf w) t_4).getLast? with | some y => replT w y (y ++ t_3) | none => []) := fun _ => rfl
    refine ⟨cc, rfl, ite_b (fun h => ?_) fun h => ?_⟩
    · have hne : idxs (splitT w t_4) ≠ [] := fun e => hcc.mp h (by rw [e]; rfl)
      obtain ⟨i0, ir, hi0⟩ := List.exists_cons_of_ne_nil hne
      have hi0l : i0 < (splitT w t_4).length := by
        have : i0 ∈ idxs (splitT w t_4) := by rw [hi0]; exact .head _
        unfold idxs at this
        exact List.mem_range.mp (List.mem_filter.mp this).1
      have eW : wrongT way w = joinT [32] ((splitT w t_4).set i0 [99, 97, 114, 115]) := by rw [eL, elst .none, hi0]
      have el5 := s5 _ _ el2
      have ec5 := s5 _ _ ec2
      have hDl : D ≠ l := by rintro rfl; rw [el5] at eD; cases eD
      have R5 := R2.mono s5
      have k5 := (k2.trans s5.kp).new (y := .lst ((splitT w t_4).map .str)) hSl
      refine WS.p (WS.weak el5 hvs ?_)
      have e6 : (AO.lst (((Txt.split (sOf w) t_4).map (·.cps.toList)).map .str)) = .lst ((splitT w t_4).map .str) := rfl
      rw [e6]
      refine s_cons (n_setitem rfl ?_)
      walk_at "ws"
      refine n_cell hF (c := c) lk (by kernel_rfl) rfl (by rw [upd_ne hlc.symm]; exact ec5) ?_
      walk_at "ws"
      refine i_lst (i := 0) (av := .int (i0 : Int)) (by rw [upd_ne hDl]; exact eD) (by rw [hi0]; rfl) ?_ (by rw [List.length_map, List.length_map]; have := List.length_filter_le (fun i => nmL.any (· == (splitT w t_4).getD i [])) (List.range (splitT w t_4).length); rw [List.length_range] at this; unfold idxs; lia)
      refine set_lst (i := i0) (upd_same _ _ _) (by rw [List.length_map]; exact hi0l) (by rw [List.length_map]; lia) ?_
      rw [upd_upd]
      refine s_cons (s_ret (n_join at_join rfl ?g3 ?g4 ?_))
      case g3 => rfl
      case g4 => exact fun _ => rfl
      walk_at "ws"
      refine ⟨_, rfl, ?_⟩
      refine n_cell hF (c := c) lk (by kernel_rfl) rfl (by rw [upd_ne hlc.symm]; exact ec5) ?_
      refine ⟨l, (splitT w t_4).set i0 [99, 97, 114, 115], rfl, by rw [upd_same, List.map_set], ?_, ?_⟩
      · have h7 : ∀ (ws : List (List Nat)) (i : Nat), ((ws.set i [99, 97, 114, 115]).map List.length).sum ≤ (ws.map List.length).sum + 4 := by
          intro ws
          induction ws with
          | nil => intro i; simp
          | cons a ws ih =>
            intro i
            cases i with
            | zero => simp only [List.set_cons_zero, List.map_cons, List.sum_cons, List.length_cons, List.length_nil]; lia
            | succ i => have := ih i; simp only [List.set_cons_succ, List.map_cons, List.sum_cons]; lia
        have h8 := h7 (splitT w t_4) i0
        have h9 : ((splitT w t_4).map List.length).sum ≤ 1000 := Nat.le_of_ble_eq_true w4
        rw [List.length_set]
        simp only [List.length_cons, List.length_nil]
        lia
      · rw [← eW]
        refine ret_now (q way _ i1 sd1 hway ((k2.trans s5.kp).new hSl) ?_)
        exact ⟨by rw [upd_ne hlp.symm]; exact R5.pot, by rw [upd_ne hbl]; exact R5.own, R5.len, R5.lo, R5.hi⟩
    · have hnil : idxs (splitT w t_4) = [] := by
        cases e : idxs (splitT w t_4) with
        | nil => rfl
        | cons a r =>
          have := hcc.mpr (by rw [e]; exact fun x => nomatch x)
          rw [h] at this; cases this
      unfold lastOk at w3
      cases e : (Txt.split (sOf w) t_4).getLast? with
      | none => rw [e] at w3; cases w3
      | some y =>
        rw [e] at w3
        replace w3 : (!(y.length == 0) && Nat.ble y.length 400) = true := w3
        rw [Bool.and_eq_true, Bool.not_eq_true'] at w3
        have eW : wrongT way w = replT w y (y ++ t_3) := by rw [eL, elst .none, hnil, e]
        have hvl : vs.getLast? = some (.str y (k + (vs.length - 1))) := by
          rw [List.getLast?_eq_getElem?] at e ⊢
          have hsl : (Txt.split (sOf w) t_4).length = vs.length := by rw [hvk, strsFrom_len]
          have hpos : vs.length - 1 < vs.length := by
            have := (List.getElem?_eq_some_iff.mp e).1
            lia
          have h5 : vs[vs.length - 1]? = some vs[vs.length - 1] := List.getElem?_eq_getElem hpos
          obtain ⟨y', t', h6⟩ := strsFrom_str (by rw [← hvk]; exact h5)
          rw [h6] at h5
          have h8 := h5
          rw [hvk] at h8
          obtain ⟨h9, h10, _⟩ := strsFrom_at h8
          rw [← hvk] at h9 h10
          rw [hsl] at e
          rw [e] at h9
          cases h9
          rw [h5, h10]
        have hpos : 0 < vs.length := by
          rw [List.getLast?_eq_getElem?] at hvl
          have := (List.getElem?_eq_some_iff.mp hvl).1
          lia
        have hsl : (Txt.split (sOf w) t_4).length = vs.length := by rw [hvk, strsFrom_len]
        refine WS.p (s_nil ?_)
        refine p_cons (p_ret (p_replW (c := c) (l := l) (vs := vs) (y := y) (tk := k + (vs.length - 1)) hF at_repl ?h3 ?h4 lk (by kernel_rfl) rfl (s5 _ _ ec2) (s5 _ _ el2) hvl (by lia) ?h5 ?h6 w3.1 (Nat.le_trans (Nat.le_of_ble_eq_true w3.2) (by decide)) rfl (Nat.le_of_ble_eq_true rfl) ?h7 ?_))
        case h3 => rfl
        case h4 => exact fun _ => rfl
        case h5 => exact Nat.ne_of_gt (Nat.lt_of_lt_of_le hk1 (Nat.le_add_right _ _))
        case h6 => exact Nat.lt_of_lt_of_le (show k + (vs.length - 1) < k + (Txt.split (sOf w) t_4).length by lia) hkN
        case h7 =>
          cases h8 : (y == y ++ t_3) with
          | false => rfl
          | true =>
            have h9 := congrArg Str.length (eq_of_beq h8)
            rw [strLen_append] at h9
            have : t_3.length = 1 := rfl
            lia
        walk_at "ws"
        refine ⟨w, rfl, by lia, rfl, ?_⟩
        rw [← eW]
        exact ret_now (fin _ s5)
end
end
section
open PySem PySem.W PySem.Calls PyProof.Rows PySem.NumText
inductive LLs (S : Store) : List AV → List (List (List AV)) → Prop
  | nil : LLs S [] []
  | cons (l : Addr) (is : List (List AV)) (avs : List AV) (iss : List (List (List AV))) : S l = some (.lst (is.map .tup)) → LLs S avs iss → LLs S (.ref l :: avs) (is :: iss)
theorem LLs.mono {S S' : Store} {avs : List AV} {iss : List (List (List AV))} : (∀ (l : Addr) (is : List (List AV)), AV.ref l ∈ avs → S l = some (.lst (is.map .tup)) → S' l = some (.lst (is.map .tup))) → LLs S avs iss → LLs S' avs iss := fun k x => by
  induction x with
  | nil => exact .nil
  | cons _ _ _ _ h _ ih => exact .cons _ _ _ _ (k _ _ (.head _) h) (ih fun l is h => k l is (.tail _ h))
theorem LLs.snoc {S : Store} {l : Addr} {is : List (List AV)} (h : S l = some (.lst (is.map .tup))) {avs : List AV} {iss : List (List (List AV))} (x : LLs S avs iss) : LLs S (avs ++ [.ref l]) (iss ++ [is]) :=
  LLs.rec (motive := fun avs iss _ => LLs S (avs ++ [.ref l]) (iss ++ [is])) (.cons _ _ _ _ h .nil) (fun _ _ _ _ q _ r => .cons _ _ _ _ q r) x
theorem PAs.get {S : Store} {b0 : Addr} {avs : List AV} {iss : List (List (List AV))} {k : Nat} {av : AV} (x : PAs S b0 avs iss) (e : avs[k]? = some av) : ∃ is, iss[k]? = some is ∧ ProcAt S b0 av is := by
  induction x generalizing k with
  | nil => cases e
  | cons a is avs iss h r ih => cases k with
  | zero => exact ⟨is, rfl, Option.some.inj e ▸ h⟩
  | succ k => exact ih (k := k) e
noncomputable abbrev scOwn : Scope := { kind := .function, names := [(t_5, .local), (a_own, .local), (a_list, .globalImplicit)], isGenerator := false, isCoroutine := false }
section
variable {W : Wd} {Γ : Fc} {n : Nat} {m : Loc} {S : Store} {X : Int → Prop} {ns : List Str} {cl : List (Str × Addr)}
theorem told_core {q1 q2 q3 q4 q5 : Pos} {b0 : Addr} {avs : List AV} {iss : List (List (List AV))} {QD : Addr → Store → Prop} (hF : FcIs Γ scope_law ns cl) (hI : W.Is) (e : S b0 = some (.lst avs)) (hp : PAs S b0 avs iss) (hz : iss.length ≤ 10) (hnil : iss ≠ []) (hzi : ∀ is ∈ iss, is.length ≤ 100)
    (q : ∀ D S3 acc, S D = none → Subs S S3 → S3 D = some (.lst acc) → LLs S3 acc iss → QD D S3) :
    ∃ items S0 fin, Src W Γ n (.Name a_own q5) (.ref b0) items S S0 fin ∧ items.length ≤ 10000 ∧ ∀ C D, C ≠ D → S0 C = none → S0 D = none → ∃ I : Nat → List AV → Store → Prop,
      I 0 [] (upd (upd S0 D (.lst [])) C (.ns [])) ∧
      (∀ k acc av S2, items[k]? = some av → I k acc S2 → S2 C = some (.ns []) → S2 D = some (.lst acc) → acc.length ≤ k → WA W (Γ.inBlk ⟨scOwn, [], C⟩) n (.Name a_own q5) av m S2 (fun m1 S3 => m1 = m ∧
        IfsR W (Γ.inBlk ⟨scOwn, [], C⟩) n m S3 [] (fun c S4 => if c = true then WE W (Γ.inBlk ⟨scOwn, [], C⟩) n (.Call (.Name a_list q1) [.Attribute (.Name a_own q2) a_instructions q3] [] q4) m S4 (fun a S5 => S5 D = some (.lst acc) ∧ (∃ f, S5 C = some (.ns f)) ∧ I (k + 1) (acc ++ [a]) (upd (upd S5 D (.lst (acc ++ [a]))) C (.ns []))) (fun _ => False)
          else S4 D = some (.lst acc) ∧ (∃ f, S4 C = some (.ns f)) ∧ I (k + 1) acc (upd S4 C (.ns []))))) ∧
      (∀ acc S2, I items.length acc S2 → S2 D = some (.lst acc) → (∀ x ao, (del S2 C) x = some ao → fin (del S2 C) x = some ao) → ∃ S3, Subs S3 (fin (del S2 C)) ∧ QD D S3) := by
  have hlen := hp.len
  refine ⟨avs, _, _, src_lst e (.name _ _ _), by lia, fun C D hCD hC hD => ⟨fun k acc S2 => ∃ accs, acc = accs ∧ LLs S2 accs (iss.take k) ∧ Subs (del S b0) S2 ∧ (∀ l ∈ accs, l ≠ .ref C ∧ l ≠ .ref D), ⟨[], rfl, .nil, ((Subs.refl _).new0 hD).new0 hC, fun _ h => absurd h List.not_mem_nil⟩, ?_, ?_⟩⟩
  · rintro k acc av S2 hk ⟨_, rfl, hL, hS, hne⟩ eC eD hacc
    obtain ⟨is, hi, p, dp, f, b, rfl, h1, h2, h3, h4, h5⟩ := hp.get hk
    have nd : ∀ {x y}, S x = some y → x ≠ b0 → S2 x = some y := fun {x y} h hx => hS x y (by unfold del; rw [if_neg hx]; exact h)
    have n1 : S2 p = some (.inst C_Procedure dp) := nd h1 (ne_of h1 e rfl)
    have n2 : S2 dp = some (.flds f) := nd h2 (ne_of h2 e rfl)
    have n4 : S2 b = some (.lst (is.map .tup)) := nd h4 h5
    have hl : is.length ≤ 100 := hzi is (List.mem_of_getElem? hi)
    have ht : iss.take (k + 1) = iss.take k ++ [is] := by rw [List.take_add_one, hi]; rfl
    have hbC : b ≠ C := by rintro rfl; rw [eC] at n4; cases n4
    refine to_blk hF eC (by simp) ⟨rfl, .none _ ?_⟩
    refine if_t ?_
    have up : ∀ {x y}, x ≠ C → S2 x = some y → upd S2 C (.ns [(a_own, .ref p)]) x = some y := fun {x y} hx h => by rw [upd_ne hx]; exact h
    refine isTy_blk hF (bi_list hI) rfl (ns_cons rfl (n_attr (name_blk hF (upd_same _ _ _) (.head _) ⟨p, C_Procedure, dp, f, _, rfl, up (ne_of n1 eC rfl) n1, up (ne_of n2 eC rfl) n2, h3, ga_Procedure_instructions hI, es_nil ?_⟩)))
    refine f_list_lst (up hbC n4) (fun l' hl' => ?_) (by rw [List.length_map]; lia)
    have hlC : l' ≠ C := by rintro rfl; rw [upd_same] at hl'; cases hl'
    rw [upd_ne hlC] at hl'
    have hlD : l' ≠ D := by rintro rfl; rw [eD] at hl'; cases hl'
    refine ⟨by rw [upd_ne hlD.symm, upd_ne hCD.symm]; exact eD, ⟨_, by rw [upd_ne hlC.symm, upd_same]⟩, acc ++ [.ref l'], rfl, ?_, ?_, ?_⟩
    · rw [ht]
      refine LLs.snoc (by rw [upd_ne hlC, upd_ne hlD, upd_same]) (LLs.mono (fun l is2 hm h => ?_) hL)
      have hn := hne _ hm
      have h6 : l ≠ C := fun e => hn.1 (by rw [e])
      have h7 : l ≠ D := fun e => hn.2 (by rw [e])
      have h8 : l ≠ l' := by rintro rfl; rw [h] at hl'; cases hl'
      rw [upd_ne h6, upd_ne h7, upd_ne h8, upd_ne h6]; exact h
    · intro x y h
      have h6 := hS x y h
      have h7 : x ≠ l' := by rintro rfl; rw [h6] at hl'; cases hl'
      have h8 : x ≠ C := by rintro rfl; rw [h] at hC; cases hC
      have h9 : x ≠ D := by rintro rfl; rw [h] at hD; cases hD
      rw [upd_ne h8, upd_ne h9, upd_ne h7, upd_ne h8]; exact h6
    · intro l hm
      rcases List.mem_append.mp hm with hm | hm
      · exact hne l hm
      · rw [List.mem_singleton] at hm
        subst hm
        exact ⟨fun e => hlC (by cases e; rfl), fun e => hlD (by cases e; rfl)⟩
  · rintro acc S2 ⟨_, rfl, hL, hS, hne⟩ eD hfin
    rw [hlen, List.take_length] at hL
    have dC : ∀ {x y}, x ≠ C → S2 x = some y → del S2 C x = some y := fun {x y} hx h => by unfold del; rw [if_neg hx]; exact h
    have eD3 := hfin D _ (dC hCD.symm eD)
    have hDb : D ≠ b0 := by
      rintro rfl
      rw [upd_same] at eD3
      cases eD3
      cases hp with
      | nil => exact hnil rfl
      | cons _ _ _ _ h1 _ =>
        cases hL with
        | cons _ _ _ _ h2 _ =>
          obtain ⟨p, dp, f, b, hpp, h3, _⟩ := h1
          cases hpp
          have := hS _ _ ((if_neg (ne_of h3 e rfl)).trans h3)
          rw [this] at h2; cases h2
    have hSD : S D = none := by unfold del at hD; rwa [if_neg hDb] at hD
    refine ⟨_, Subs.refl _, q D _ acc hSD (fun x y h => ?_) eD3 (LLs.mono (fun l is hm h => hfin l _ (dC (fun e => (hne _ hm).1 (by rw [e])) h)) hL)⟩
    by_cases hx : x = b0
    · subst hx; rw [e] at h; cases h; exact upd_same _ _ _
    · have h6 : del S b0 x = some y := by unfold del; rw [if_neg hx]; exact h
      rw [upd_ne hx]
      exact dC (by rintro rfl; rw [hC] at h6; cases h6) (hS x y h6)
noncomputable def datA : AV → Dat
  | .none => .none
  | .int i => .int i
  | .str l => .str (sOf l)
  | .tup l => .tuple (datAs l)
  | _ => .none
where datAs : List AV → List Dat
  | [] => []
  | a :: l => datA a :: datAs l
theorem rd_encN (S : Store) : ∀ l : List Nat, RDs S (l.map encN) (datA.datAs (l.map encN))
  | [] => .nil
  | _ :: l => .cons _ _ _ _ (.int _) (rd_encN S l)
theorem rd_encR (S : Store) (l : List Nat) : RD S (encR l) (datA (encR l)) := .tup _ _ (rd_encN S l)
theorem rd_encRow (S : Store) (v : Row) : RD S (encRow v) (datA (encRow v)) := .tup _ _ (.cons _ _ _ _ (.int _) (.cons _ _ _ _ (.int _) (.cons _ _ _ _ (rd_encR S _) .nil)))
theorem rd_rows (S : Store) : ∀ l : List Row, RDs S (l.map encRow) (datA.datAs (l.map encRow))
  | [] => .nil
  | v :: l => .cons _ _ _ _ (rd_encRow S v) (rd_rows S l)
theorem rd_opd (S : Store) : ∀ o : Opd, RD S (encO o) (datA (encO o))
  | .nums l => rd_encR S l
  | .rows l => .tup _ _ (rd_rows S l)
  | .num k => .int _
theorem rd_opds (S : Store) : ∀ l : List Opd, RDs S (l.map encO) (datA.datAs (l.map encO))
  | [] => .nil
  | o :: l => .cons _ _ _ _ (rd_opd S o) (rd_opds S l)
theorem rd_ins (S : Store) (i : Ins) : RD S (.tup (encI i)) (datA (.tup (encI i))) := .tup _ _ (.cons _ _ _ _ (.str _) (rd_opds S i.o))
theorem rd_inss (S : Store) : ∀ l : List Ins, RDs S ((l.map encI).map .tup) (datA.datAs ((l.map encI).map .tup))
  | [] => .nil
  | i :: l => .cons _ _ _ _ (rd_ins S i) (rd_inss S l)
noncomputable def datL (l : List Ins) : Dat := .list (datA.datAs ((l.map encI).map .tup))
theorem rd_lls {S : Store} {avs : List AV} {ls : List (List Ins)} : LLs S avs (ls.map fun l => l.map encI) → RDs S avs (ls.map datL) := by
  induction ls generalizing avs with
  | nil => intro h; cases h; exact .nil
  | cons l ls ih =>
    intro h
    cases h with
    | cons _ _ _ _ h1 h2 => exact .cons _ _ _ _ (.lst _ _ _ h1 (rd_inss S l)) (ih h2)
end
end
section
open PySem PySem.W PySem.Calls PyProof.Rows PySem.NumText
noncomputable def mkPr (k f e : Nat) : Pr := ⟨k, k == 1, stepsI f e⟩
noncomputable def GoodPrs (prs : List Pr) : Prop := ∀ (j : Nat) (pr : Pr), prs[j]? = some pr → ∃ f e, f < 9 ∧ e < 3 ∧ pr = mkPr j f e
noncomputable def spoil (prs : List Pr) (k way : Nat) (w : List Nat) : List (List Nat) := (linesA prs).take k ++ [wrongT way w] ++ (linesA prs ++ [[]]).drop (k + 1)
structure PlainOk (prs : List Pr) : Prop where
  ok : ∀ pr ∈ prs, prOk pr = true
  sum : (((linesA prs).map (· ++ [10])).map List.length).sum ≤ 9000
  rd : codeP (textA prs) = .ok (prs.map fun pr => pr.is.map encI)
  dat : ∀ pr ∈ prs, kqdOk 8 (datL pr.is) = true
  split : splitT (textA prs) (sOf [10]) = linesA prs ++ [[]]
  line : ∀ (k : Nat) (w : List Nat), (linesA prs)[k]? = some w → lineOk w = true
  bad : ∀ (k : Nat) (w : List Nat) (way : Nat), (linesA prs)[k]? = some w → way < 4 → codeP (joinT [10] (spoil prs k way w)) = .error k
  size : ∀ (k : Nat) (w : List Nat) (way : Nat), (linesA prs)[k]? = some w → way < 4 → ((spoil prs k way w).map List.length).sum + (spoil prs k way w).length * 1 ≤ 10000
theorem PP.kp {S S' : Store} {p q dp b : Addr} {num : Nat} {ic : Bool} {is : List Ins} {x : Addr} {r : List AV} (h : PP S q dp b num ic is) (k : Kp p S S') (e : S p = some (.lst (.ref x :: r))) : PP S' q dp b num ic is := by
  refine ⟨k _ _ (ne_of h.inst e rfl) h.inst, k _ _ (ne_of h.flds e rfl) h.flds, k _ _ ?_ h.ins⟩
  rintro rfl
  have := h.ins
  rw [e] at this
  cases is with
  | nil => cases this
  | cons _ _ => cases this
theorem PPs.kp {S S' : Store} {p : Addr} {x : Addr} {r : List AV} (k : Kp p S S') (e : S p = some (.lst (.ref x :: r))) {avs : List AV} {prs : List Pr} (h : PPs S avs prs) : PPs S' avs prs := h.map fun _ _ _ _ h => h.kp k e
theorem PPs.toPAs {S : Store} {L : Addr} {as : List AV} (eL : S L = some (.lst as)) (hr : ∀ x ∈ as, ∀ l, x ≠ .tup l) (hn : as ≠ []) {avs : List AV} {prs : List Pr} (h : PPs S avs prs) : PAs S L avs (prs.map fun pr => pr.is.map encI) := by
  induction h with
  | nil => exact .nil
  | cons p dp b pr avs prs h q ih =>
    refine .cons _ _ _ _ ⟨p, dp, _, b, rfl, h.inst, h.flds, procF_ins _ _ _ _ _ _ _ _, h.ins, ?_⟩ ih
    rintro rfl
    have := h.ins
    rw [eL] at this
    cases this
    cases e : pr.is with
    | nil => rw [e] at hn; exact hn rfl
    | cons i r => rw [e] at hr; exact hr (.tup (encI i)) (.head _) _ rfl
theorem PPs.refs {S : Store} {avs : List AV} {prs : List Pr} (h : PPs S avs prs) : ∀ x ∈ avs, ∀ l, x ≠ .tup l := by
  induction h with
  | nil => exact fun _ h => absurd h List.not_mem_nil
  | cons _ _ _ _ _ _ _ _ ih =>
    intro x hx l e
    rcases List.mem_cons.mp hx with h | h
    · rw [h] at e; cases e
    · exact ih x h l e
theorem PP.put {S : Store} {L p dp b : Addr} {num : Nat} {ic : Bool} {is : List Ins} {as as' : List AV} (h : PP S p dp b num ic is) (eL : S L = some (.lst as)) (hr : ∀ x ∈ as, ∀ l, x ≠ .tup l) (hn : as ≠ [] ∨ is ≠ []) : PP (upd S L (.lst as')) p dp b num ic is := by
  refine ⟨by rw [upd_ne (ne_of h.inst eL rfl)]; exact h.inst, by rw [upd_ne (ne_of h.flds eL rfl)]; exact h.flds, ?_⟩
  have hb : b ≠ L := by
    rintro rfl
    have := h.ins
    rw [eL] at this
    cases this
    cases e : is with
    | nil => rw [e] at hn; rcases hn with hn | hn <;> exact hn rfl
    | cons i r => rw [e] at hr; exact hr (.tup (encI i)) (.head _) _ rfl
  rw [upd_ne hb]; exact h.ins
theorem PPs.put {S : Store} {L : Addr} {as as' : List AV} (eL : S L = some (.lst as)) (hr : ∀ x ∈ as, ∀ l, x ≠ .tup l) (hn : as ≠ []) {avs : List AV} {prs : List Pr} (h : PPs S avs prs) : PPs (upd S L (.lst as')) avs prs := h.map fun _ _ _ _ h => h.put eL hr (.inl hn)
theorem PPs.put' {S : Store} {L : Addr} {as as' : List AV} {prs : List Pr} (eL : S L = some (.lst as)) (h : PPs S as prs) : PPs (upd S L (.lst as')) as prs := by
  cases as with
  | nil => cases h; exact .nil
  | cons a r => exact PPs.put eL h.refs (fun e => nomatch e) h
theorem steps_ne (f e : Nat) : stepsI f e ≠ [] := by
  unfold stepsI lastI
  exact fun h => by have := congrArg List.length h; rw [List.length_append] at this; simp at this
theorem pick_to (L : List AV) (k : Nat) (h : k ≤ L.length) : pickA L none (some (k : Int)) = L.take k := by
  have h2 : kms_hi (some (k : Int)) L.length = k := by
    show (if (k : Int) < 0 then L.length - (-(k : Int)).toNat else min (k : Int).toNat L.length) = k
    rw [if_neg (by lia), Int.toNat_natCast]; lia
  unfold pickA
  rw [h2]
  rfl
theorem pick_from (L : List AV) (k : Nat) (h : k ≤ L.length) : pickA L (some (k : Int)) none = L.drop k := by
  have h2 : kms_lo (some (k : Int)) L.length = k := by
    show (if (k : Int) < 0 then L.length - (-(k : Int)).toNat else min (k : Int).toNat L.length) = k
    rw [if_neg (by lia), Int.toNat_natCast]; lia
  unfold pickA
  rw [h2]
  show (L.drop k).take (L.length - k) = _
  rw [List.take_of_length_le (by rw [List.length_drop]; lia)]
section
variable {W : Wd} {Γ : Fc} {n : Nat} {m : Loc} {S : Store} {is : List Int}
theorem law_ok {scr : Addr} (hW : W.Ok) (hI : W.Is) (hF : FcIs Γ scope_law ns_law []) (hg : Γ.g = W.b) (ho : Γ.outer = []) (hs : LstAt W (fun _ => none) scr (is.map .int)) (hz : is.length ≤ 63) (hB : BadCls W)
    (hP : ∀ prs : List Pr, prs.length = 1 ∨ prs.length = 2 → GoodPrs prs → PlainOk prs) : WS0 W Γ 20 body_law (loc0 ns_law [.ref scr]) (fun _ => none) := by
  refine s0_cons ?_
  walk_at "ws"
  refine WF.le (n' := 2) (pot_ok hW hI hs hz fun p b S1 sd _ s1 R => ?_).toF (by decide)
  refine s0_cons ?_
  walk_at "ws"
  refine e_listS (es_nil ⟨Nat.zero_le _, fun L S2 hL s2 eL => ?_⟩)
  have R2 := R.mono s2
  refine s0_cons ?_
  walk_at "ws"
  refine WF.le (n' := 1) (dip_ok (many := 2) hW hI R2 (by decide) fun d i3 sd3 hd h1 h2 => ?_).toF (by decide)
  have R3 := R2.put (i' := i3) h1 h2
  have hLp : L ≠ p := by rintro rfl; rw [R2.pot] at eL; cases eL
  have hLb : b ≠ L := by rintro rfl; have := R.own; rw [hL] at this; cases this
  have eL3 : upd S2 p (.lst [.ref b, .int (i3 : Int), .int sd3]) L = some (.lst []) := by rw [upd_ne hLp]; exact eL
  revert R3 eL3
  generalize upd S2 p (.lst [.ref b, .int (i3 : Int), .int sd3]) = S3
  intro R3 eL3
  refine b_addi ?_
  rw [show (1 : Int) + (d : Int) = ((1 + d : Nat) : Int) by lia]
  walk_at "ws"
  refine f_range (k := 1 + d) fun r t u v hr => ?_
  have s4 := (Subs.refl S3).new (y := .raw (rngObj (1 + d) t u v)) hr
  refine ⟨_, _, _, src_rng (upd_same _ _ _) (by lia), fun j m1 S' => (∃ o, m1 = [some (.ref scr), some (.ref p), some (.ref L), o, none, none, none, none, none, none]) ∧ ∃ prs avs i sd, prs.length = j ∧ GoodPrs prs ∧ S' L = some (.lst avs) ∧ PPs S' avs prs ∧ Pot S' p b is i sd, ⟨⟨_, rfl⟩, [], [], _, _, rfl, ?_, s4 _ _ eL3, .nil, R3.mono s4⟩, ?_, ?_⟩
  · intro j pr h; cases h
  · rintro j av m1 S' hj ⟨⟨o, rfl⟩, prs, avs, i, sd, hlen, hgd, eL, hpp, R⟩
    rw [List.getElem?_map, Option.map_eq_some_iff] at hj
    obtain ⟨j', hj, rfl⟩ := hj
    have hjj : j' = j ∧ j < 1 + d := by
      have h3 := (List.getElem?_eq_some_iff.mp hj)
      obtain ⟨h4, h5⟩ := h3
      rw [List.length_range] at h4
      rw [List.getElem_range] at h5
      exact ⟨h5.symm, h4⟩
    obtain ⟨rfl, hjd⟩ := hjj
    refine nw_name hF (i := 3) ?ix1 ?_
    case ix1 => walk_at "ix"
    refine s_cons ?_
    walk_at "ws"
    refine ⟨L, _, rfl, eL, ?_⟩
    refine n_call (g := C_Procedure) hF ?ker (gl_Procedure hI) (kp_Procedure hI) rfl ?_
    case ker => kernel_rfl
    walk_at "ws"
    refine b_addi ?_
    walk_at "ws"
    refine c_eqi ?_
    walk_at "ws"
    refine WF.le (n' := 2) (steps_ok hW hI R fun f e l S4 i4 sd4 hf he hl k4 R4 e4 => ?_).toF (by decide)
    walk_at "ws"
    refine WF.le (n' := 2) (make (mk_Procedure hI) (mi_Procedure hI) (mf_Procedure hI) fun x dx hx hdx hne => ?_) (by decide)
    refine proc_init_ok hW hI (upd_same _ _ _) (by rw [upd_ne hne.symm, upd_same]) ⟨rfl, ?_⟩
    have e1 : (1 + (j' : Int)) = ((1 + j' : Nat) : Int) := by lia
    have e2 : ((j' : Int) == 1) = (j' == 1) := way_eq j' 1
    rw [e1, e2, upd_comm hne.symm, upd_upd]
    have up : Subs S4 (upd (upd S4 dx (.flds (procF (.int (j' : Int)) (.str [97]) (.int ((1 + j' : Nat) : Int)) (.bool false) (.bool (j' == 1)) (.int 9) (.int 2) (.ref l)))) x (.inst C_Procedure dx)) := ((Subs.refl S4).new hdx).new0 hx
    have px : PP (upd (upd S4 dx (.flds (procF (.int (j' : Int)) (.str [97]) (.int ((1 + j' : Nat) : Int)) (.bool false) (.bool (j' == 1)) (.int 9) (.int 2) (.ref l)))) x (.inst C_Procedure dx)) x dx l (mkPr j' f e).num (mkPr j' f e).ic (mkPr j' f e).is := ⟨upd_same _ _ _, by rw [upd_ne hne.symm, upd_same]; rfl, up _ _ e4⟩
    revert up px
    rw [upd_comm hne]
    generalize (upd (upd S4 x (.inst C_Procedure dx)) dx (.flds (procF (.int (j' : Int)) (.str [97]) (.int ((1 + j' : Nat) : Int)) (.bool false) (.bool (j' == 1)) (.int 9) (.int 2) (.ref l)))) = S5
    intro up px
    have eL5 := up _ _ (k4 _ _ hLp eL)
    have hp5 := (PPs.kp k4 R.pot hpp).mono up
    have R5 := R4.mono up
    refine ⟨avs, eL5, by rw [hpp.len, hlen]; lia, ?_⟩
    walk_at "ws"
    refine ⟨⟨_, rfl⟩, prs ++ [mkPr j' f e], avs ++ [.ref x], i4, sd4, by rw [List.length_append, hlen]; rfl, ?_, upd_same _ _ _, PPs.snoc (px.put eL5 hpp.refs (.inr (steps_ne f e))) (PPs.put' eL5 hp5), ⟨by rw [upd_ne hLp.symm]; exact R5.pot, by rw [upd_ne hLb]; exact R5.own, R5.len, R5.lo, R5.hi⟩⟩
    intro j pr h
    by_cases hjl : j < prs.length
    · rw [List.getElem?_append_left hjl] at h; exact hgd j pr h
    · rw [List.getElem?_append_right (by lia)] at h
      have : j - prs.length = 0 := by
        have := (List.getElem?_eq_some_iff.mp h).1
        simp only [List.length_cons, List.length_nil] at this; lia
      rw [this] at h
      cases h
      exact ⟨f, e, hf, he, by rw [show j = j' by lia]⟩
  · rintro m1 S' ⟨⟨o, rfl⟩, prs, avs, i, sd, hlen, hgd, eL, hpp, R⟩
    rw [List.length_map, List.length_range] at hlen
    dsimp only [id]
    have PO := hP prs (by lia) hgd
    clear hP
    have hne : avs ≠ [] := fun e => by
      have := hpp.len
      rw [e, hlen] at this
      simp only [List.length_nil] at this; lia
    have tlen : (textA prs).length ≤ 9000 := by
      have h3 := joinT_len [] ((linesA prs).map (· ++ [10]))
      have h4 := PO.sum
      unfold textA
      simp only [List.length_nil, Nat.mul_zero, Nat.add_zero] at h3
      lia
    refine s0_cons ?_
    walk_at "ws"
    refine n_call0 (g := f_law_names) hF ?ker (gl_law_names hI) (kp_law_names hI) ?_
    case ker => kernel_rfl
    refine WF.le (n' := 1) (names_ok hW hI fun nA S5 _ s5 e5 => ?_).toF (by decide)
    walk_at "ws"
    refine WF.le (n' := 6) (code_text_ok hW hI (s5 _ _ eL) (hpp.mono s5) e5 PO.ok (by lia) (by have := PO.sum; lia) ?_).toF (by decide)
    replace eL := s5 _ _ eL
    replace hpp := hpp.mono s5
    replace R := R.mono s5
    clear s5 e5
    refine s0_cons (s_comp (i := 5) (hF.ns ▸ ?ix5) (cl := []) (by kernel_rfl) (by rw [← Fc.ev_env hF.blk, ev_scope hF]; kernel_rfl) ?_ hF.blk)
    case ix5 => walk_at "ix"
    walk_at "ws"
    refine n_call0 (g := f_law_names) hF ?ker2 (gl_law_names hI) (kp_law_names hI) ?_
    case ker2 => kernel_rfl
    refine WF.le (n' := 1) (names_ok hW hI fun nA S6 _ s6 e6 => ?_).toF (by decide)
    walk_at "ws"
    refine WF.le (n' := 14) (code_ok hW hI (by lia) e6 (fun h => h) ?_).toF (by decide)
    rw [PO.rd]
    intro fb favs S7 hfb s7 efb hpa
    replace s7 := s6.trans s7
    have hisz : ∀ js ∈ prs.map fun pr => pr.is.map encI, js.length ≤ 100 := by
      intro js h
      obtain ⟨pr, hpr, rfl⟩ := List.mem_map.mp h
      have := PO.ok pr hpr
      unfold prOk at this
      rw [Bool.and_eq_true] at this
      have := isOk_len this.2
      rw [List.length_map]; lia
    have hnil : (prs.map fun pr => pr.is.map encI) ≠ [] := fun e => by
      have := congrArg List.length e
      rw [List.length_map, hlen] at this
      simp only [List.length_nil] at this; lia
    refine told_core hF hI efb hpa (by rw [List.length_map]; lia) hnil hisz fun D S8 acc hD s8 eD hLL => ?_
    replace eL := s8 _ _ (s7 _ _ eL)
    replace hpp := (hpp.mono s7).mono s8
    replace R := (R.mono s7).mono s8
    refine s0_cons (s_if (nt_cmp rfl ?_))
    walk_at "ws"
    refine e_comp (cl := []) (by kernel_rfl) ?_ hF.blk
    walk_at "ws"
    refine told_core hF hI eL (hpp.toPAs eL hpp.refs hne) (by rw [List.length_map]; lia) hnil hisz fun D2 S9 acc2 hD2 s9 eD2 hLL2 => ?_
    have hLL1 : LLs S9 acc ((prs.map (·.is)).map fun l => l.map encI) := by
      rw [List.map_map]
      exact LLs.mono (fun l is _ h => s9 _ _ h) hLL
    have hLL3 : LLs S9 acc2 ((prs.map (·.is)).map fun l => l.map encI) := by
      rw [List.map_map]; exact hLL2
    have hok : ∀ d ∈ (prs.map (·.is)).map datL, kqdOk 8 d = true := by
      intro d hd
      rw [List.map_map] at hd
      obtain ⟨pr, hpr, rfl⟩ := List.mem_map.mp hd
      exact PO.dat pr hpr
    refine c_nel (s9 _ _ eD) eD2 (rd_lls hLL1) (rd_lls hLL3) hok hok fun c hc => ⟨c, rfl, ite_b (fun h => absurd rfl (hc.mp h)) fun _ => ?_⟩
    replace eL := s9 _ _ eL
    replace R := R.mono s9
    refine s_nil ?_
    clear hLL hLL1 hLL2 hLL3 hok
    refine s0_cons (n_assign (i := 6) hF ?ix6 rfl (n_split at_split ?h1 ?h3 ?h4 ?_))
    case ix6 => walk_at "ix"
    case h1 => rfl
    case h3 => rfl
    case h4 => exact fun _ => rfl
    walk_at "ws"
    refine ⟨_, rfl, ?_⟩
    walk_at "ws"
    refine f_chr (k := 10) (by decide) ⟨[10], rfl, List.cons_ne_nil _ _, by lia, fun ls S10 _ s10 els => ?_⟩
    rw [PO.split] at els
    replace R := R.mono s10
    have hlp : ls ≠ p := by rintro rfl; rw [R.pot] at els; revert els; cases linesA prs <;> (intro h; cases h)
    have hlA := linesA_len PO.ok
    have hl1 : 1 ≤ (linesA prs).length := by
      cases prs with
      | nil => simp only [List.length_nil] at hlen; lia
      | cons pr r => unfold linesA; rw [List.flatMap_cons, List.length_append, linesT_len]; lia
    clear hpp eL hLp hLb hpa efb
    refine s0_cons ?_
    walk_at "ws"
    refine f_len_lst els ?_ (by rw [List.length_map, List.length_append]; simp only [List.length_cons, List.length_nil]; lia)
    walk_at "ws"
    refine b_subi ?_
    have elen : ((List.map AV.str (linesA prs ++ [[]])).length : Int) - 1 = ((linesA prs).length : Int) := by
      rw [List.length_map, List.length_append]; simp only [List.length_cons, List.length_nil]; lia
    rw [elen]
    walk_at "ws"
    refine WF.le (n' := 1) (dip_ok (many := (linesA prs).length) hW hI R hl1 fun k i4 sd4 hk h1 h2 => ?_).toF (by decide)
    replace els : upd S10 p (.lst [.ref b, .int (i4 : Int), .int sd4]) ls = some (.lst ((linesA prs ++ [[]]).map .str)) := by rw [upd_ne hlp]; exact els
    replace R := R.put (i' := i4) h1 h2
    revert R els
    generalize upd S10 p (.lst [.ref b, .int (i4 : Int), .int sd4]) = S11
    intro els R
    obtain ⟨w, hw⟩ : ∃ w, (linesA prs)[k]? = some w := ⟨_, List.getElem?_eq_getElem hk⟩
    have hLl : ((linesA prs ++ [[]]).map AV.str).length = (linesA prs).length + 1 := by rw [List.length_map, List.length_append]; rfl
    refine s0_cons (n_assign (i := 8) hF ?ix8 rfl (e_bin (e_bin (e_lslice ?_))))
    case ix8 => walk_at "ix"
    walk_at "ws"
    refine ⟨ls, _, _, _, rfl, .none, .int _, .inl els, by rw [hLl]; lia, fun l1 S12 _ s12 e12 => ?_⟩
    rw [pick_to _ k (by rw [hLl]; lia)] at e12
    replace els := s12 _ _ els
    replace R := R.mono s12
    have h1p : l1 ≠ p := by
      rintro rfl
      rw [R.pot] at e12
      cases e : (linesA prs ++ [[]]) with
      | nil => rw [e] at e12; revert e12; cases k <;> (intro h; cases h)
      | cons a r => rw [e] at e12; revert e12; cases k <;> (intro h; cases h)
    refine e_listS ?_
    walk_at "ws"
    refine i_lst (i := k) (av := .str w) els (by rw [List.getElem?_map, List.getElem?_append_left hk, hw]; rfl) ?_ (by rw [hLl]; lia)
    walk_at "ws"
    refine WF.le (n' := 2) (wrong_ok hW hI R (PO.line k w hw) fun way S13 i5 sd5 hway k13 R13 => ?_).toF (by decide)
    walk_at "ws"
    refine ⟨by show 1 ≤ 10000; decide, fun l2 S14 _ s14 e14 => ?_⟩
    replace els := s14 _ _ (k13 _ _ hlp els)
    replace e12 := s14 _ _ (k13 _ _ h1p e12)
    refine b_addlS e12 e14 (by rw [List.length_take, hLl]; simp only [List.length_cons, List.length_nil]; lia) fun l3 S15 _ s15 e15 => ?_
    replace els := s15 _ _ els
    refine e_lslice ?_
    walk_at "ws"
    refine b_addi ?_
    rw [show (k : Int) + 1 = ((k + 1 : Nat) : Int) by lia]
    walk_at "ws"
    refine ⟨ls, _, _, _, rfl, .int _, .none, .inl els, by rw [hLl]; lia, fun l4 S16 _ s16 e16 => ?_⟩
    rw [pick_from _ (k + 1) (by rw [hLl]; lia)] at e16
    refine b_addlS (s16 _ _ e15) e16 (by rw [List.length_append, List.length_take, List.length_drop, hLl]; simp only [List.length_cons, List.length_nil]; lia) fun l5 S17 _ s17 e17 => ?_
    have esp : ((((linesA prs ++ [[]]).map AV.str).take k ++ [AV.str (wrongT way w)]) ++ ((linesA prs ++ [[]]).map AV.str).drop (k + 1)) = (spoil prs k way w).map .str := by
      unfold spoil
      rw [← List.map_take, ← List.map_drop, List.map_append, List.map_append, List.take_append_of_le_length (by lia)]
      rfl
    rw [esp] at e17
    refine s0_try (ie := 9) (ia := 7) (k := (k : Int)) hF rfl hg ho rfl hB ?gb ?eb ?ixe ?ixa ?ne rfl (by kernel_rfl) ?_
    case gb => kernel_rfl
    case eb => rw [hI.bad]; exact gl_BadListing hI
    case ixe => walk_at "ix"
    case ixa => walk_at "ix"
    case ne => decide +kernel
    walk_at "ws"
    refine n_join at_join rfl ?j3 ?j4 ?_
    case j3 => rfl
    case j4 => exact fun _ => rfl
    walk_at "ws"
    refine f_chr (k := 10) (by decide) ⟨[10], rfl, ?_⟩
    walk_at "ws"
    have hsz := PO.size k w way hw hway
    refine ⟨l5, spoil prs k way w, rfl, e17, by simp only [List.length_cons, List.length_nil]; lia, ?_⟩
    refine ns_cons rfl (n_call0 (g := f_law_names) hF ?ker3 (gl_law_names hI) (kp_law_names hI) ?_)
    case ker3 => kernel_rfl
    refine WF.le (n' := 1) (names_ok hW hI fun nA S18 _ s18 e18 => ?_).toF (by decide)
    walk_at "ws"
    refine WF.le (n' := 14) (code_ok hW hI ?tz e18 ?hX ?_).toF (by decide)
    case tz =>
      have := joinT_len [10] (spoil prs k way w)
      simp only [List.length_cons, List.length_nil] at this
      lia
    case hX =>
      show ¬ ((BIG : Nat) : Int) = (k : Int)
      have : BIG = 1000000000 := rfl
      lia
    rw [PO.bad k w way hw hway]
    rfl
end
end
section
open PySem PySem.W PySem.Calls PyProof.Rows PySem.NumText
noncomputable def cat : List (List Nat) → List Nat
  | [] => []
  | x :: r => x ++ 10 :: cat r
theorem cat_app : ∀ a b : List (List Nat), cat (a ++ b) = cat a ++ cat b
  | [], _ => rfl
  | x :: r, b => by show x ++ 10 :: cat (r ++ b) = (x ++ 10 :: cat r) ++ cat b; rw [cat_app r b, List.append_assoc]; rfl
theorem cat_cons (x : List Nat) (r : List (List Nat)) (y : List Nat) : cat (x :: r) ++ y = x ++ 10 :: (cat r ++ y) := by
  show (x ++ 10 :: cat r) ++ y = _; rw [List.append_assoc]; rfl
theorem join_cat : ∀ a : List (List Nat), joinT [10] (a ++ [[]]) = cat a
  | [] => rfl
  | [x] => by show x ++ [10] ++ [] = x ++ [10]; rw [List.append_nil]
  | x :: y :: r => by
    show x ++ [10] ++ joinT [10] (y :: (r ++ [[]])) = _
    rw [show y :: (r ++ [[]]) = (y :: r) ++ [[]] from rfl, join_cat (y :: r), List.append_assoc]; rfl
theorem join0_cat : ∀ a : List (List Nat), joinT [] (a.map (· ++ [10])) = cat a
  | [] => rfl
  | [x] => rfl
  | x :: y :: r => by
    show (x ++ [10]) ++ [] ++ joinT [] ((y :: r).map (· ++ [10])) = _
    rw [join0_cat (y :: r), List.append_nil, List.append_assoc]; rfl
theorem free_uniq : ∀ {a b c d : List Nat}, (10 : Nat) ∉ a → 10 ∉ b → a ++ 10 :: c = b ++ 10 :: d → a = b ∧ c = d
  | [], [], _, _, _, _, h => ⟨rfl, by injection h⟩
  | [], y :: b, _, _, _, h2, h => absurd (by injection h with h _; rw [h]; exact .head _) h2
  | x :: a, [], _, _, h1, _, h => absurd (by injection h with h _; rw [← h]; exact .head _) h1
  | x :: a, y :: b, c, d, h1, h2, h => by
    injection h with e h
    obtain ⟨h3, h4⟩ := free_uniq (fun m => h1 (.tail _ m)) (fun m => h2 (.tail _ m)) h
    exact ⟨by rw [e, h3], h4⟩
theorem join_uniq : ∀ {a b : List (List Nat)}, a ≠ [] → b ≠ [] → (∀ x ∈ a, (10 : Nat) ∉ x) → (∀ x ∈ b, (10 : Nat) ∉ x) → joinT [10] a = joinT [10] b → a = b
  | [], _, h, _, _, _, _ => absurd rfl h
  | _, [], _, h, _, _, _ => absurd rfl h
  | [x], [y], _, _, _, _, h => by rw [show x = y from h]
  | [x], y :: z :: r, _, _, h1, _, h => absurd (show 10 ∈ x by rw [show x = y ++ [10] ++ joinT [10] (z :: r) from h]; simp) (h1 x (.head _))
  | x :: z :: r, [y], _, _, _, h2, h => absurd (show 10 ∈ y by rw [← show x ++ [10] ++ joinT [10] (z :: r) = y from h]; simp) (h2 y (.head _))
  | x :: z :: r, y :: w :: s, _, _, h1, h2, h => by
    have h : x ++ [10] ++ joinT [10] (z :: r) = y ++ [10] ++ joinT [10] (w :: s) := h
    rw [List.append_assoc, List.append_assoc] at h
    obtain ⟨e, h⟩ := free_uniq (h1 x (.head _)) (h2 y (.head _)) h
    rw [e, join_uniq (List.cons_ne_nil _ _) (List.cons_ne_nil _ _) (fun u m => h1 u (.tail _ m)) (fun u m => h2 u (.tail _ m)) h]
theorem split_cat {ls : List (List Nat)} (h : ∀ x ∈ ls, (10 : Nat) ∉ x) : splitT (cat ls) (sOf [10]) = ls ++ [[]] := by
  have h1 := StrLaws.join_split (sOf (cat ls)) (sOf [10])
  have h2 : joinT [10] (splitT (cat ls) (sOf [10])) = cat ls := by
    have := join_cps (sOf [10]) (Txt.split (sOf (cat ls)) (sOf [10]))
    rw [h1] at this
    exact this.symm
  have h3 : ∀ x ∈ splitT (cat ls) (sOf [10]), (10 : Nat) ∉ x := by
    intro x hx
    obtain ⟨p, hp, rfl⟩ := List.mem_map.mp hx
    exact StrLaws.split_free (sOf (cat ls)) 10 p hp
  refine join_uniq (fun e => ?_) (by simp) h3 (fun x hx => ?_) (by rw [h2, join_cat])
  · have h4 : ∀ x y : Str, Txt.split x y ≠ [] := by
      intro x y
      unfold Txt.split
      split
      · exact List.cons_ne_nil _ _
      · split
        · exact List.cons_ne_nil _ _
        · rw [StrLaws.partsBetween_eq]
          obtain ⟨p, q, e⟩ := StrLaws.partsFrom_ne x y.length 0 (Builtin.Str.occurrences x y 0 x.length (x.length + 1))
          rw [e]; exact List.cons_ne_nil _ _
    exact h4 _ _ (List.map_eq_nil_iff.mp e)
  · rcases List.mem_append.mp hx with hx | hx
    · exact h x hx
    · rw [List.mem_singleton] at hx; rw [hx]; exact List.not_mem_nil
noncomputable def allI : List Ins := someI ++ lastI
noncomputable abbrev PROC : List Nat := [112, 114, 111, 99, 101, 100, 117, 114, 101]
noncomputable def AllL {α : Type} (P : α → Prop) : List α → Prop
  | [] => True
  | x :: r => P x ∧ AllL P r
theorem AllL.mem {α : Type} {P : α → Prop} : ∀ {l : List α}, AllL P l → ∀ x ∈ l, P x
  | _ :: _, h, _, .head _ => h.1
  | _ :: _, h, x, .tail _ m => AllL.mem h.2 x m
noncomputable abbrev l0 (i : Ins) : List Nat := [76, 48, 32] ++ insT i
noncomputable abbrev l1 (i : Ins) : List Nat := [32, 32, 32] ++ insT i
noncomputable abbrev lE : List Nat := [101, 110, 100]
noncomputable def allW : List (List Nat) := [headT 0 false, headT 1 true, lE] ++ allI.map l0 ++ allI.map l1
noncomputable def chkL (w : List Nat) : Bool := lineOk w && Nat.ble w.length 100 && w.all (fun c => c != 10) && Nat.ble (wrongT 0 w).length 200 && Nat.ble (wrongT 1 w).length 200 && Nat.ble (wrongT 2 w).length 200 && Nat.ble (wrongT 3 w).length 200
theorem chk_all : allW.all chkL = true := by kernel_rfl
local macro_rules | `(tactic| walk_at "each") => `(tactic| refine ⟨?_, ?_, ?_, ?_, ?_, ?_, ?_, ?_, ?_, ?_, ?_, ?_, trivial⟩)
theorem line0 : ∀ i ∈ allI, ∀ (k : Nat) (t : List Nat) (l : Nat), instrsL opsN (k + 1) [] [] (l0 i ++ 10 :: t) l = instrsL opsN k [encI i] [0] t (l + 1) := by
  refine AllL.mem ?_
  walk_at "each" <;> intro k t l <;> kernel_rfl
theorem line1 : ∀ i ∈ allI, ∀ (k : Nat) (fs : List (List AV)) (ts t : List Nat) (l : Nat), instrsL opsN (k + 1) fs ts (l1 i ++ 10 :: t) l = instrsL opsN k (fs ++ [encI i]) ts t (l + 1) := by
  refine AllL.mem ?_
  walk_at "each" <;> intro k fs ts t l <;> kernel_rfl
theorem bad2 (k : Nat) {fs : List (List AV)} (ts x : List Nat) (l : Nat) (h : fs.length ≠ 9) : instrsL opsN (k + 1) fs ts ([76, 57, 32] ++ x) l = .error l := by
  have e1 : takesP lE ([76, 57, 32] ++ x) l = .ok (false, [76, 57, 32] ++ x, l) := by kernel_rfl
  have e2 : labelP fs.length ([76, 57, 32] ++ x) l = if (9 != fs.length) = true then .error l else .ok (true, 32 :: x, l) := by kernel_rfl
  have e3 : (9 != fs.length) = true := bne_iff_ne.mpr (Ne.symm h)
  rw [if_pos e3] at e2
  unfold instrsL
  rw [e1]
  show (PR.bd (labelP fs.length ([76, 57, 32] ++ x) l) _) = _
  rw [e2]; rfl
theorem bad0 : ∀ i ∈ allI, ∀ (k way : Nat) (t : List Nat) (l : Nat), way < 4 → instrsL opsN (k + 1) [] [] (wrongT way (l0 i) ++ 10 :: t) l = .error l := by
  refine AllL.mem ?_
  walk_at "each" <;> (intro k way t l hw; match way, hw with
    | 0, _ => kernel_rfl
    | 1, _ => kernel_rfl
    | 2, _ => exact bad2 k [] _ l (by decide)
    | 3, _ => kernel_rfl)
theorem bad1 : ∀ i ∈ allI, ∀ (k way : Nat) (fs : List (List AV)) (ts t : List Nat) (l : Nat), way < 4 → fs.length ≠ 9 → instrsL opsN (k + 1) fs ts (wrongT way (l1 i) ++ 10 :: t) l = .error l := by
  refine AllL.mem ?_
  walk_at "each" <;> (intro k way fs ts t l hw hf; match way, hw with
    | 0, _ => kernel_rfl
    | 1, _ => kernel_rfl
    | 2, _ => exact bad2 k ts _ l hf
    | 3, _ => kernel_rfl)
structure GI (is : List Ins) : Prop where
  all : ∀ i ∈ is, i ∈ allI
  len : is.length ≤ 6
  lab : ((is.map encI).any fun i => isLab0 (insLab i)) = true
theorem gi_steps {f e : Nat} (he : e < 3) : GI (stepsI f e) where
  all := by
    intro i hi
    rcases List.mem_append.mp hi with hi | hi
    · have := List.mem_of_mem_drop (List.mem_of_mem_take hi)
      exact List.mem_append.mpr (.inl ((List.mem_append.mp this).elim id id))
    · exact List.mem_append.mpr (.inr hi)
  len := by
    unfold stepsI
    rw [List.length_append, List.length_take]
    have : lastI.length = 3 := rfl
    lia
  lab := by
    unfold stepsI
    rw [List.map_append, List.any_append, show ((lastI.map encI).any fun i => isLab0 (insLab i)) = true by kernel_rfl, Bool.or_true]
theorem ins_all : allI.all (fun i => insTOk i && insOk (encI i) && Nat.ble (insT i).length 1000) = true := by kernel_rfl
theorem gi_all {is : List Ins} (h : GI is) : (is.map encI).all insOk = true := by
  rw [List.all_map, List.all_eq_true]
  intro i hi
  have := List.all_eq_true.mp ins_all i (h.all i hi)
  rw [Bool.and_eq_true, Bool.and_eq_true] at this
  exact this.1.2
theorem gi_isOk {is : List Ins} (h : GI is) : isOk is = true := by
  unfold isOk
  rw [Bool.and_eq_true]
  exact ⟨List.all_eq_true.mpr fun i hi => List.all_eq_true.mp ins_all i (h.all i hi), Nat.ble_eq_true_of_le (Nat.le_trans h.len (by decide))⟩
theorem body1 : ∀ (is : List Ins) (k : Nat), bodyT [0] (k + 1) is = is.map l1
  | [], _ => rfl
  | i :: r, k => by
    show (aheadT [0] (k + 1) ++ insT i) :: bodyT [0] (k + 2) r = _
    rw [body1 r (k + 1)]
    unfold aheadT
    rw [if_neg (by rw [decide_eq_true_eq, List.mem_singleton]; lia)]; rfl
theorem lines_eq {i : Ins} {r : List Ins} (h : GI (i :: r)) (n : Nat) (c : Bool) : linesT n c (i :: r) = headT n c :: l0 i :: (r.map l1 ++ [lE]) := by
  unfold linesT
  rw [show labsOf ((i :: r).map encI) = [0] by unfold labsOf; exact if_pos h.lab]
  show [headT n c] ++ (aheadT [0] 0 ++ insT i) :: bodyT [0] (0 + 1) r ++ [lE] = _
  rw [body1]; rfl
theorem good_l1 : ∀ {r : List Ins} (_ : ∀ i ∈ r, i ∈ allI) (k : Nat) (fs : List (List AV)) (ts t : List Nat) (l : Nat), instrsL opsN (k + r.length) fs ts (cat (r.map l1) ++ t) l = instrsL opsN k (fs ++ r.map encI) ts t (l + r.length)
  | [], _, k, fs, ts, t, l => by rw [List.map_nil, List.map_nil, List.append_nil]; rfl
  | i :: r, h, k, fs, ts, t, l => by
    rw [List.map_cons, cat_cons, List.length_cons, ← Nat.add_assoc, line1 i (h i (.head _)), good_l1 (fun j m => h j (.tail _ m)), List.append_assoc, show l + 1 + r.length = l + (r.length + 1) by lia]; rfl
theorem last_ok (k : Nat) (fs : List (List AV)) (ts t : List Nat) (l : Nat) : instrsL opsN (k + 1) fs ts (lE ++ 10 :: t) l = .ok ((fs, ts), 10 :: t, l) := by kernel_rfl
theorem good_is {i : Ins} {r : List Ins} (h : GI (i :: r)) (t : List Nat) (l : Nat) : instrsP opsN (cat (l0 i :: (r.map l1 ++ [lE])) ++ t) l = .ok ((i :: r).map encI, t, l + r.length + 2) := by
  have h6 := h.len
  rw [List.length_cons] at h6
  unfold instrsP
  rw [cat_cons, show 100 = 99 - r.length + r.length + 1 by lia, line0 i (h.all i (.head _)), cat_app, List.append_assoc, good_l1 (fun j m => h.all j (.tail _ m)), show 99 - r.length = 98 - r.length + 1 by lia]
  show PR.bd (instrsL opsN (98 - r.length + 1) ((i :: r).map encI) [0] (lE ++ 10 :: t) (l + 1 + r.length)) _ = _
  rw [last_ok]
  show (if (!((i :: r).map encI).all insOk) = true then .error BIG else if ([0] != told0 ((i :: r).map encI)) = true then .error (l + 1 + r.length) else PR.bd (endP (10 :: t) (l + 1 + r.length)) _) = _
  rw [gi_all h, show told0 ((i :: r).map encI) = [0] by unfold told0; exact if_pos h.lab, show l + r.length + 2 = l + 1 + r.length + 1 by lia]
  rfl
theorem bad_end (k : Nat) {fs : List (List AV)} {ts : List Nat} (t : List Nat) (l : Nat) (h1 : fs.all insOk = true) (h2 : told0 fs = ts) : ∀ way < 4, (PR.bd (instrsL opsN (k + 1) fs ts (wrongT way lE ++ 10 :: t) l) fun p r l => if (!p.1.all insOk) = true then .error BIG else if (p.2 != told0 p.1) = true then .error l else (endP r l).bd fun _ r l => .ok (p.1, r, l)) = .error l := by
  subst h2
  have key : ∀ x : List Nat, instrsL opsN (k + 1) fs (told0 fs) (lE ++ 32 :: x) l = .ok ((fs, told0 fs), 32 :: x, l) := fun x => by kernel_rfl
  intro way hw
  match way, hw with
  | 0, _ => kernel_rfl
  | 3, _ => kernel_rfl
  | 1, _ =>
    rw [show wrongT 1 lE ++ 10 :: t = lE ++ 32 :: (lE ++ 10 :: t) by kernel_rfl, key]
    show (if (!fs.all insOk) = true then .error BIG else if (told0 fs != told0 fs) = true then .error l else PR.bd (endP (32 :: (lE ++ 10 :: t)) l) _) = _
    rw [h1, bne_self_eq_false]; kernel_rfl
  | 2, _ =>
    rw [show wrongT 2 lE ++ 10 :: t = lE ++ 32 :: (49 :: 10 :: t) by kernel_rfl, key]
    show (if (!fs.all insOk) = true then .error BIG else if (told0 fs != told0 fs) = true then .error l else PR.bd (endP (32 :: (49 :: 10 :: t)) l) _) = _
    rw [h1, bne_self_eq_false]; kernel_rfl
theorem bad_is {i : Ins} {r : List Ins} (h : GI (i :: r)) {A B : List (List Nat)} {w : List Nat} (e : l0 i :: (r.map l1 ++ [lE]) = A ++ w :: B) {way : Nat} (hw : way < 4) (t : List Nat) (l : Nat) : instrsP opsN (cat (A ++ wrongT way w :: B) ++ t) l = .error (l + A.length) := by
  have h6 := h.len
  rw [List.length_cons] at h6
  cases A with
  | nil =>
    cases e
    rw [List.nil_append, cat_cons]
    unfold instrsP
    rw [bad0 i (h.all i (.head _)) 99 way _ l hw]; rfl
  | cons a A =>
    injection e with e1 e
    subst e1
    replace e : r.map l1 ++ [lE] = A ++ w :: B := e
    rw [List.cons_append, cat_cons, List.length_cons]
    unfold instrsP
    rcases List.eq_nil_or_concat B with rfl | ⟨B', x, rfl⟩
    · obtain ⟨e1, e2⟩ := List.append_inj' e rfl
      subst e1
      cases e2
      rw [List.length_map, show 100 = 99 - r.length + r.length + 1 by lia, line0 i (h.all i (.head _)), cat_app, List.append_assoc, good_l1 (fun j m => h.all j (.tail _ m)), show 99 - r.length = 98 - r.length + 1 by lia, cat_cons, show l + (r.length + 1) = l + 1 + r.length by lia]
      exact bad_end _ _ _ (gi_all h) (by unfold told0; exact if_pos h.lab) way hw
    · rw [List.concat_eq_append, ← List.cons_append, ← List.append_assoc] at e
      obtain ⟨e1, -⟩ := List.append_inj' e rfl
      obtain ⟨ra, rb, rfl, rfl, e2⟩ := List.map_eq_append_iff.mp e1
      obtain ⟨j, rc, rfl, rfl, rfl⟩ := List.map_eq_cons_iff.mp e2
      rw [List.length_append, List.length_cons] at h6
      rw [List.length_map, show 100 = 99 - ra.length + ra.length + 1 by lia, line0 i (h.all i (.head _)), cat_app, List.append_assoc, good_l1 (fun j m => h.all j (.tail _ (List.mem_append.mpr (.inl m)))), show 99 - ra.length = 98 - ra.length + 1 by lia, cat_cons, show l + (ra.length + 1) = l + 1 + ra.length by lia, bad1 j (h.all j (.tail _ (List.mem_append.mpr (.inr (.head _))))) _ _ _ _ _ _ hw (by rw [List.length_append, List.length_map]; simp only [List.length_cons, List.length_nil]; lia)]
      rfl
noncomputable def finP : PR (List (List (List AV))) → Except Nat (List (List (List AV)))
  | .error e => .error e
  | .ok (iss, r, l) => if decide (r = []) = true then .ok iss else .error l
theorem head_good {j : Nat} (hj : j < 2) (f : List (List AV) → List Nat → Nat → PR (List (List (List AV)))) (fs : List (List (List AV))) (t : List Nat) (l : Nat) : ((takesP PROC (headT j (j == 1) ++ 10 :: t) l).bd fun b r l => if b = true then (procP opsN j r l).bd f else .ok (fs, r, l)) = (instrsP opsN t (l + 1)).bd f := by
  match j, hj with
  | 0, _ => kernel_rfl
  | 1, _ => kernel_rfl
theorem head_bad {j : Nat} (hj : j < 2) (f : List (List AV) → List Nat → Nat → PR (List (List (List AV)))) (fs : List (List (List AV))) (t : List Nat) (l way : Nat) (hw : way < 4) : finP ((takesP PROC (wrongT way (headT j (j == 1)) ++ 10 :: 76 :: t) l).bd fun b r l => if b = true then (procP opsN j r l).bd f else .ok (fs, r, l)) = .error l := by
  match j, hj, way, hw with
  | 0, _, 0, _ => kernel_rfl
  | 0, _, 1, _ => kernel_rfl
  | 0, _, 2, _ => kernel_rfl
  | 0, _, 3, _ => kernel_rfl
  | 1, _, 0, _ => kernel_rfl
  | 1, _, 1, _ => kernel_rfl
  | 1, _, 2, _ => kernel_rfl
  | 1, _, 3, _ => kernel_rfl
theorem proc_good {j : Nat} (hj : j < 2) {is : List Ins} (hn : is ≠ []) (h : GI is) {fs : List (List (List AV))} (hf : fs.length = j) (k : Nat) (t : List Nat) (l : Nat) : procsL opsN (k + 1) fs (cat (linesT j (j == 1) is) ++ t) l = procsL opsN k (fs ++ [is.map encI]) t (l + (linesT j (j == 1) is).length) := by
  cases is with
  | nil => exact absurd rfl hn
  | cons i r =>
    rw [lines_eq h, cat_cons]
    unfold procsL
    rw [hf, head_good hj, good_is h]
    simp only [List.length_cons, List.length_append, List.length_map, List.length_nil]
    rw [show l + (r.length + (0 + 1) + 1 + 1) = l + 1 + r.length + 2 by lia]
    cases k <;> rfl
theorem proc_bad {j : Nat} (hj : j < 2) {is : List Ins} (hn : is ≠ []) (h : GI is) {fs : List (List (List AV))} (hf : fs.length = j) (k : Nat) {A B : List (List Nat)} {w : List Nat} (e : linesT j (j == 1) is = A ++ w :: B) {way : Nat} (hw : way < 4) (t : List Nat) (l : Nat) : finP (procsL opsN (k + 1) fs (cat (A ++ wrongT way w :: B) ++ t) l) = .error (l + A.length) := by
  cases is with
  | nil => exact absurd rfl hn
  | cons i r =>
    rw [lines_eq h] at e
    unfold procsL
    rw [hf]
    cases A with
    | nil =>
      injection e with e1 e2
      subst e1
      subst e2
      rw [List.nil_append, cat_cons, cat_cons]
      exact head_bad hj _ _ _ _ _ hw
    | cons a A =>
      injection e with e1 e2
      subst e1
      replace e2 : l0 i :: (r.map l1 ++ [lE]) = A ++ w :: B := e2
      rw [List.cons_append, cat_cons, head_good hj, bad_is h e2 hw, List.length_cons, show l + (A.length + 1) = l + 1 + A.length by lia]; rfl
end
section
open PySem PySem.W PySem.Calls PyProof.Rows PySem.NumText
theorem code_fin (t : List Nat) : codeP t = finP (procsL opsN 100 [] t 0) := by
  unfold codeP
  generalize procsL opsN 100 [] t 0 = x
  cases x <;> rfl
theorem procs_end (k : Nat) (fs : List (List (List AV))) (l : Nat) : procsL opsN (k + 1) fs [] l = .ok (fs, [], l) := by kernel_rfl
theorem sumc_le {c : Nat} : ∀ {l : List (List Nat)} (_ : ∀ x ∈ l, x.length ≤ c), (l.map List.length).sum ≤ l.length * c
  | [], _ => Nat.zero_le _
  | x :: r, h => by
    have h1 := h x (.head _)
    have h2 := sumc_le fun y m => h y (.tail _ m)
    rw [List.map_cons, List.sum_cons, List.length_cons, Nat.succ_mul]; lia
theorem mk_lines {j f e : Nat} (hj : j < 2) (he : e < 3) : (∀ w ∈ linesT j (j == 1) (stepsI f e), w ∈ allW) ∧ (linesT j (j == 1) (stepsI f e)).length ≤ 8 := by
  have h := gi_steps (f := f) he
  revert h
  cases e1 : stepsI f e with
  | nil => exact absurd e1 (steps_ne f e)
  | cons i r =>
    intro h
    rw [lines_eq h]
    have h6 := h.len
    rw [List.length_cons] at h6
    refine ⟨fun w hw => ?_, by simp only [List.length_cons, List.length_append, List.length_map, List.length_nil]; lia⟩
    unfold allW
    rw [List.mem_append, List.mem_append]
    cases hw with
    | head => exact .inl (.inl (match j, hj with
      | 0, _ => .head _
      | 1, _ => .tail _ (.head _)))
    | tail _ hw =>
      cases hw with
      | head => exact .inl (.inr (List.mem_map.mpr ⟨i, h.all i (.head _), rfl⟩))
      | tail _ hw =>
        rcases List.mem_append.mp hw with hw | hw
        · obtain ⟨a, ha, rfl⟩ := List.mem_map.mp hw
          exact .inr (List.mem_map.mpr ⟨a, h.all a (.tail _ ha), rfl⟩)
        · rw [List.mem_singleton] at hw
          exact .inl (.inl (by rw [hw]; exact .tail _ (.tail _ (.head _))))
theorem chk_at {w : List Nat} (h : w ∈ allW) : lineOk w = true ∧ w.length ≤ 100 ∧ (10 : Nat) ∉ w ∧ ∀ way < 4, (wrongT way w).length ≤ 200 := by
  have := List.all_eq_true.mp chk_all w h
  unfold chkL at this
  simp only [Bool.and_eq_true] at this
  obtain ⟨⟨⟨⟨⟨⟨h1, h2⟩, h3⟩, h4⟩, h5⟩, h6⟩, h7⟩ := this
  refine ⟨h1, Nat.le_of_ble_eq_true h2, fun m => ?_, fun way hw => ?_⟩
  · have := List.all_eq_true.mp h3 10 m
    exact absurd this (by decide)
  · match way, hw with
    | 0, _ => exact Nat.le_of_ble_eq_true h4
    | 1, _ => exact Nat.le_of_ble_eq_true h5
    | 2, _ => exact Nat.le_of_ble_eq_true h6
    | 3, _ => exact Nat.le_of_ble_eq_true h7
theorem dat_all : ∀ f < 9, ∀ e < 3, kqdOk 8 (datL (stepsI f e)) = true := by decide +kernel
theorem plain_ok {prs : List Pr} (h1 : ∀ pr ∈ prs, ∃ j f e, j < 2 ∧ f < 9 ∧ e < 3 ∧ pr = mkPr j f e) (hz : prs.length ≤ 2)
    (rd : finP (procsL opsN 100 [] (cat (linesA prs)) 0) = .ok (prs.map fun pr => pr.is.map encI))
    (bad : ∀ (A B : List (List Nat)) (w : List Nat) (way : Nat), linesA prs = A ++ w :: B → way < 4 → finP (procsL opsN 100 [] (cat (A ++ wrongT way w :: B)) 0) = .error A.length) : PlainOk prs := by
  have hm : ∀ w ∈ linesA prs, w ∈ allW := by
    intro w hw
    obtain ⟨pr, hp, hw⟩ := List.mem_flatMap.mp hw
    obtain ⟨j, f, e, hj, _, he, rfl⟩ := h1 pr hp
    exact (mk_lines hj he).1 w hw
  have hl : (linesA prs).length ≤ 16 := by
    have key : ∀ l : List Pr, (∀ pr ∈ l, ∃ j f e, j < 2 ∧ f < 9 ∧ e < 3 ∧ pr = mkPr j f e) → (linesA l).length ≤ l.length * 8 := by
      intro l
      induction l with
      | nil => intro _; exact Nat.zero_le _
      | cons p r ih =>
        intro h
        obtain ⟨j, f, e, hj, _, he, rfl⟩ := h p (.head _)
        have h2 := (mk_lines (f := f) hj he).2
        have h3 := ih fun pr m => h pr (.tail _ m)
        unfold linesA at h3 ⊢
        rw [List.flatMap_cons, List.length_append, List.length_cons, Nat.succ_mul]
        have h2 : (linesT (mkPr j f e).num (mkPr j f e).ic (mkPr j f e).is).length ≤ 8 := h2
        lia
    have := key prs h1
    lia
  have ht : textA prs = cat (linesA prs) := join0_cat _
  have hs : ∀ (k : Nat) (w : List Nat) (way : Nat), (linesA prs)[k]? = some w → ∃ A B, linesA prs = A ++ w :: B ∧ A.length = k ∧ spoil prs k way w = (A ++ wrongT way w :: B) ++ [[]] := by
    intro k w way hk
    obtain ⟨hlt, hw⟩ := List.getElem?_eq_some_iff.mp hk
    refine ⟨(linesA prs).take k, (linesA prs).drop (k + 1), ?_, by rw [List.length_take]; lia, ?_⟩
    · rw [← hw, ← List.drop_eq_getElem_cons hlt, List.take_append_drop]
    · unfold spoil
      rw [List.drop_append_of_le_length (by lia)]
      simp only [List.append_assoc, List.cons_append, List.nil_append]
  refine ⟨fun pr hp => ?_, ?_, ?_, fun pr hp => ?_, ?_, ?_, ?_, ?_⟩
  · obtain ⟨j, f, e, hj, _, he, rfl⟩ := h1 pr hp
    unfold prOk
    rw [Bool.and_eq_true]
    exact ⟨Nat.ble_eq_true_of_le (show j + 1 ≤ 9 by lia), gi_isOk (gi_steps he)⟩
  · have := sumc_le (c := 101) (l := (linesA prs).map (· ++ [10])) fun x hx => by
      obtain ⟨w, hw, rfl⟩ := List.mem_map.mp hx
      have := (chk_at (hm w hw)).2.1
      rw [List.length_append, show [(10 : Nat)].length = 1 from rfl]; lia
    rw [List.length_map] at this
    lia
  · rw [ht, code_fin, rd]
  · obtain ⟨j, f, e, hj, hf, he, rfl⟩ := h1 pr hp
    exact dat_all f hf e he
  · rw [ht]; exact split_cat fun x hx => (chk_at (hm x hx)).2.2.1
  · intro k w hk
    exact (chk_at (hm w (List.mem_of_getElem? hk))).1
  · intro k w way hk hw
    obtain ⟨A, B, e, hA, e2⟩ := hs k w way hk
    rw [e2, join_cat, code_fin, bad A B w way e hw, hA]
  · intro k w way hk hw
    obtain ⟨A, B, e, hA, e2⟩ := hs k w way hk
    have hlen : (spoil prs k way w).length ≤ 17 := by
      have : (linesA prs).length = (A ++ w :: B).length := by rw [e]
      rw [List.length_append, List.length_cons] at this
      rw [e2, List.length_append, List.length_append, List.length_cons]
      simp only [List.length_cons, List.length_nil]; lia
    have := sumc_le (c := 200) (l := spoil prs k way w) fun x hx => by
      rw [e2, List.mem_append, List.mem_append, List.mem_cons, List.mem_singleton] at hx
      have hm2 : ∀ y ∈ linesA prs, y.length ≤ 200 := fun y hy => Nat.le_trans (chk_at (hm y hy)).2.1 (by decide)
      rcases hx with (hx | rfl | hx) | rfl
      · exact hm2 x (by rw [e]; exact List.mem_append.mpr (.inl hx))
      · exact (chk_at (hm w (List.mem_of_getElem? hk))).2.2.2 way hw
      · exact hm2 x (by rw [e]; exact List.mem_append.mpr (.inr (.tail _ hx)))
      · exact Nat.zero_le _
    lia
theorem plain_all (prs : List Pr) (hn : prs.length = 1 ∨ prs.length = 2) (hg : GoodPrs prs) : PlainOk prs := by
  match prs, hn, hg with
  | [p], _, hg =>
    obtain ⟨f, e, hf, he, rfl⟩ := hg 0 p rfl
    have el : linesA [mkPr 0 f e] = linesT 0 (0 == 1) (stepsI f e) := List.append_nil _
    refine plain_ok (fun pr hp => ?_) (by simp only [List.length_cons, List.length_nil]; lia) ?_ fun A B w way e1 hw => ?_
    · rw [List.mem_singleton] at hp; exact ⟨0, f, e, by lia, hf, he, hp⟩
    · rw [el, ← List.append_nil (cat _), proc_good (j := 0) (by lia) (steps_ne f e) (gi_steps he) rfl 99, procs_end]; rfl
    · rw [el] at e1
      rw [← List.append_nil (cat _), proc_bad (j := 0) (by lia) (steps_ne f e) (gi_steps he) rfl 99 e1 hw, Nat.zero_add]
  | [p, q], _, hg =>
    obtain ⟨f, e, hf, he, rfl⟩ := hg 0 p rfl
    obtain ⟨f2, e2, hf2, he2, rfl⟩ := hg 1 q rfl
    have el : linesA [mkPr 0 f e, mkPr 1 f2 e2] = linesT 0 (0 == 1) (stepsI f e) ++ linesT 1 (1 == 1) (stepsI f2 e2) := by
      show linesT 0 (0 == 1) (stepsI f e) ++ (linesT 1 (1 == 1) (stepsI f2 e2) ++ []) = _
      rw [List.append_nil]
    refine plain_ok (fun pr hp => ?_) (by simp only [List.length_cons, List.length_nil]; lia) ?_ fun A B w way e1 hw => ?_
    · rcases List.mem_cons.mp hp with hp | hp
      · exact ⟨0, f, e, by lia, hf, he, hp⟩
      · rw [List.mem_singleton] at hp; exact ⟨1, f2, e2, by lia, hf2, he2, hp⟩
    · rw [el, cat_app, proc_good (j := 0) (by lia) (steps_ne f e) (gi_steps he) rfl 99, ← List.append_nil (cat (linesT 1 _ _)), proc_good (j := 1) (by lia) (steps_ne f2 e2) (gi_steps he2) rfl 98, procs_end]; rfl
    · rw [el] at e1
      have second : ∀ C, A = linesT 0 (0 == 1) (stepsI f e) ++ C → linesT 1 (1 == 1) (stepsI f2 e2) = C ++ w :: B → finP (procsL opsN 100 [] (cat (A ++ wrongT way w :: B)) 0) = .error A.length := by
        rintro C rfl e3
        rw [List.append_assoc, cat_app, proc_good (j := 0) (by lia) (steps_ne f e) (gi_steps he) rfl 99, ← List.append_nil (cat (C ++ _)), proc_bad (j := 1) (by lia) (steps_ne f2 e2) (gi_steps he2) rfl 98 e3 hw, List.length_append]
        congr 1; lia
      rcases List.append_eq_append_iff.mp e1 with ⟨C, e3, e4⟩ | ⟨C, e3, e4⟩
      · exact second C e3 e4
      · cases C with
        | nil => exact second [] (by rw [e3, List.append_nil, List.append_nil]) e4.symm
        | cons c C =>
          injection e4 with e5 e6
          subst e5
          subst e6
          show finP (procsL opsN 100 [] (cat (A ++ wrongT way w :: (C ++ linesT 1 (1 == 1) (stepsI f2 e2)))) 0) = _
          rw [show A ++ wrongT way w :: (C ++ linesT 1 (1 == 1) (stepsI f2 e2)) = (A ++ wrongT way w :: C) ++ linesT 1 (1 == 1) (stepsI f2 e2) by rw [List.append_assoc]; rfl, cat_app, proc_bad (j := 0) (by lia) (steps_ne f e) (gi_steps he) rfl 99 e3 hw, Nat.zero_add]
end
section
open PySem PySem.W PySem.Calls PyProof.Rows PySem.NumText
theorem bad_cls {W : Wd} (hI : W.Is) : BadCls W where
  cls := by
    rw [hI.K, hI.bad]
    exact ⟨_, _, _, _, _, _, _, _, _, _, _, _, _, _, lk_bad _, by kernel_rfl, by kernel_rfl, by kernel_rfl, by kernel_rfl⟩
  one := by rw [hI.K, hI.bad]; kernel_rfl
theorem wints_of {R : WRecords} : ∀ {xs : List WData}, WShape.hasItems R xs .int = true → ∃ is : List Int, xs = is.map .int
  | [], _ => ⟨[], rfl⟩
  | x :: r, h => by
    have h : (WShape.has R x .int && WShape.hasItems R r .int) = true := by simpa [WShape.hasItems] using h
    obtain ⟨h1, h2⟩ := Bool.and_eq_true_iff.mp h
    obtain ⟨i, rfl⟩ := hasW_int h1
    obtain ⟨is, rfl⟩ := wints_of h2
    exact ⟨i :: is, rfl⟩
theorem vrs_of {R : WRecords} {cl : Str → Option Addr} {h b : Heap} {is : List Int} {vs : List Value} {as : List Addr} : ReadsAllW R cl h vs (is.map .int) as → VRs b [] vs (is.map .int) := by
  induction is generalizing vs as with
  | nil => intro q; cases q; exact .nil
  | cons i is ih =>
    intro q
    cases q with
    | cons r1 r2 =>
      cases r1
      exact .cons _ _ _ _ (.int _ _) (ih r2)
theorem law_walk : WalkO qv loose0 (XL qv []) HK.says (OpenRow.toRowW myLaw.row) ((defOf qv a_law).get rfl).1 ((defOf qv a_law).get rfl).2 (fun f vs => PySem.call f vs) := by
  intro w s₀ s₁ mg mb G Y a o pm cd doc dV kV _ _ _ _ hn hg args vals as hpre hlay hrd hwl hlo
  have hsh : WShape.hasAll (OpenRow.toRowW myLaw.row).records args [.list .int] = true := (pre_splitW hpre).1
  have hcond := (pre_splitW hpre).2
  obtain ⟨d, r, rfl, h1, h2⟩ := hasAllW_cons hsh
  obtain rfl := hasAllW_nil h2
  obtain ⟨xs, rfl, h3⟩ := hasW_list h1
  obtain ⟨is, rfl⟩ := wints_of h3
  have hz : is.length ≤ 63 := by
    w_cond hcond
    rename_i hle _
    rw [List.length_map] at hle
    omega
  have K := kIn_of Y
  let W : Wd := { prog := (OpenRow.toRowW myLaw.row).prog, w := w, K := heapK w.params, b := s₁.heap, p := qv, loose := loose0, mean := ExcName.means s₀.heap, mg := mg, mb := mb, s0 := s₁, bad := C_BadListing }
  have hW : W.Ok := ⟨K, G.T⟩
  have hI : W.Is := ⟨rfl, rfl⟩
  cases hrd with
  | cons r1 r2 =>
    cases r2
    cases r1 with
    | @list scr o' vs nn _ as' ho hc hd hr =>
      have e1 : ((defOf qv a_law).get rfl).1.name = a_law := by kernel_rfl
      rw [e1] at hn
      have hn2 := ns_some_of hW.inK hW.top.g (gl_law hI)
      have ha : a = f_law := by
        have := hn.symm.trans hn2
        cases this; rfl
      subst ha
      obtain ⟨⟨fo, name, dV, kV, doc, pm, an, ct, hfo, _, hfd, hbind⟩, hcode⟩ := fn_law hW hI
      let Γ : Fc := mkΓ a_law scope_law [] ns_law ⟨s₁.heap.objs.size, f_law, .ref 317, [], s₁.heap, callerA⟩
      have hΓ : Γ.Ok W := ⟨nm_law.kind, below_caller s₁.heap, nm_law.nd, fun x hx => nm_law.loc x hx, nm_law.dbg⟩
      refine wpAny_call (codeAny_call_def (by decide) hfo hfd hW.top.nolimit hcode rfl (hbind s₁ [.ref scr] rfl) nm_law.nocell (fun x hx => ?loc) (fun h₁ hns hk => ?_) nm_law.co nm_law.gen nm_law.kind)
      case loc => exact nm_law.loc x.1 (by cases hx with | head => exact .head _ | tail _ h => cases h)
      have aok : AOk Γ 20 (callerA.deeper Γ.env) := ⟨Around.frames_deeper rfl, rfl, show 1 + claimMargin + 1 + 20 < 990 by decide, show 4 + 3 + 20 * 20 + 100 < cLine by decide⟩
      have st : St W Γ [] [] (loc0 ns_law [.ref scr]) (fun _ => none) { s₁ with heap := h₁, toks := s₁.toks + 1 } := by
        refine ⟨_, [], ⟨⟨hns, hk, Nat.le_refl _⟩, (fun p hp => nomatch hp), List.nodup_nil, fun i x av e1 e2 => ?_, (fun a ao e => nomatch e), ⟨rfl, rfl, rfl⟩⟩⟩
        have e3 := loc0_get e2
        match i, e1, e3 with
        | 0, e1, e3 => cases e1; cases e3; exact ⟨_, by kernel_rfl, .ref _⟩
      refine wpAny_mono (law_ok hW hI (FcIs.of _ _ _ _ _) rfl rfl (.inr ⟨vs.toList, ⟨_, ho, hc, _, hd⟩, vrs_of hr⟩) hz (bad_cls hI) plain_all hW hΓ _ [] [] _ aok st) ?_ fun _ _ h => h.elim
      rintro f s' ⟨rfl, hstay, hsh⟩
      exact ⟨.inl ⟨.bool true, .bool true, [], rfl, raisesW_false (by wrow_none_raised), ReadsW.bool _, by kernel_rfl, fun _ => ⟨.nil, fun a h => nomatch h⟩⟩, .of_keep hstay, hsh.os, .of_eq (hsh.gens.trans hg)⟩
theorem law_promised : (OpenRow.toRowW myLaw.row).promised := ⟨[.list []], by kernel_rfl, by kernel_rfl⟩
end
end
end Mine
theorem PySem.Challenge.cw_nt0176_01_holds : PySem.Challenge.rw_nt0176_01.Holds :=
  Mine.head_all Mine.law_walk Mine.law_promised
