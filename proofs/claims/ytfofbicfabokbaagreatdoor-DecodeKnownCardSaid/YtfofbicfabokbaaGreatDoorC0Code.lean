/- The code of the functions that are reached, resolved. -/
import Derived.Test.YtfofbicfabokbaaGreatDoorProg
import Derived.KernelRfl
import Derived.Test.YtfofbicfabokbaaGreatDoorAbH
set_option linter.unusedVariables false
set_option maxRecDepth 100000
namespace Go.Proofs.YtfofbicfabokbaaGreatDoor.code
open Go.Ab
noncomputable abbrev prog : Program := Tryz.prog
abbrev f_gosem_cut_init : FuncId := 2
abbrev f_linotypelaw21_DecodeBytes : FuncId := 3
abbrev f_linotypelaw21_DecodeBy : FuncId := 4
abbrev f_linotypelaw21_DecodeKnown : FuncId := 5
abbrev f_linotypelaw21_DecodeOne : FuncId := 6
abbrev f_linotypelaw21_awake : FuncId := 7
abbrev f_linotypekit_LentBytes : FuncId := 8
abbrev f_decode_Decode : FuncId := 9
abbrev f_linotyperef21_Decode : FuncId := 10
abbrev f_linotypekit_SameInst : FuncId := 11
abbrev f_linotypekit_KeptBytes : FuncId := 12
abbrev f_linotypekit_OverInst : FuncId := 13
abbrev f_linotypekit_CopyForm : FuncId := 14
abbrev f_decode_By : FuncId := 15
abbrev f_linotyperef21_By : FuncId := 16
abbrev f_linotypekit_SameForm : FuncId := 17
abbrev f_linotypelaw21_is : FuncId := 18
abbrev f_linotypelaw21_of : FuncId := 19
abbrev f_linotypelaw21_fails : FuncId := 20
abbrev f_linotypelaw21_r : FuncId := 21
abbrev f_table_Rows : FuncId := 22
abbrev f_linotypelaw21_n : FuncId := 23
abbrev f_linotypekit_Pick : FuncId := 24
abbrev f_decode_find : FuncId := 25
abbrev f_decode_read : FuncId := 26
abbrev f_linotyperef19_Rows : FuncId := 27
abbrev f_linotyperef21_by : FuncId := 28
abbrev f_linotypekit_SameArgs : FuncId := 29
abbrev f_linotypekit_SameBytes : FuncId := 30
abbrev f_table_Of : FuncId := 31
abbrev f_decode_equal : FuncId := 32
abbrev f_linotyperef21_known : FuncId := 33
abbrev f_linotypekit_SameInts : FuncId := 34
abbrev f_table_collect : FuncId := 35
abbrev f_table_Rows_1 : FuncId := 36
abbrev f_decode_trie : FuncId := 37
abbrev f_decode_node_open : FuncId := 38
abbrev f_decode_node_child : FuncId := 39
abbrev f_decode_reader_head : FuncId := 40
abbrev f_decode_reader_opcode : FuncId := 41
abbrev f_decode_reader_modrm : FuncId := 42
abbrev f_decode_reader_operands : FuncId := 43
abbrev f_linotyperef13_Rows : FuncId := 44
abbrev f_linotyperef14_Rows : FuncId := 45
abbrev f_linotyperef15_Rows : FuncId := 46
abbrev f_linotyperef16_Rows : FuncId := 47
abbrev f_linotyperef17_Rows : FuncId := 48
abbrev f_linotyperef18_Rows : FuncId := 49
abbrev f_linotyperef21_state_vex : FuncId := 50
abbrev f_linotyperef21_state_legacy : FuncId := 51
abbrev f_linotyperef21_state_code : FuncId := 52
abbrev f_linotyperef21_state_modrm : FuncId := 53
abbrev f_linotyperef12_Tail : FuncId := 54
abbrev f_linotyperef21_state_has : FuncId := 55
abbrev f_linotyperef08_Canon : FuncId := 56
abbrev f_linotyperef21_state_inst : FuncId := 57
abbrev f_table_Of_1 : FuncId := 58
abbrev f_slices_Equal_int_int : FuncId := 59
abbrev f_linotyperef21_ints : FuncId := 60
abbrev f_table_lists : FuncId := 61
abbrev f_decode_lead : FuncId := 62
abbrev f_decode_takes : FuncId := 63
abbrev f_decode_reader_prefix : FuncId := 64
abbrev f_decode_reader_legacy : FuncId := 65
abbrev f_shape_Slot : FuncId := 66
abbrev f_decode_reader_expect : FuncId := 67
abbrev f_decode_classOf : FuncId := 68
abbrev f_decode_sizeOf : FuncId := 69
abbrev f_modrm_Read : FuncId := 70
abbrev f_shape_Tail : FuncId := 71
abbrev f_field_Get : FuncId := 72
abbrev f_decode_reader_operand : FuncId := 73
abbrev f_inst_Canon : FuncId := 74
abbrev f_linotyperef13_sum : FuncId := 75
abbrev f_linotyperef13_moves : FuncId := 76
abbrev f_linotyperef13_tests : FuncId := 77
abbrev f_linotyperef13_R : FuncId := 78
abbrev f_linotyperef13_M : FuncId := 79
abbrev f_linotyperef13_Row_All : FuncId := 80
abbrev f_linotyperef13_widens : FuncId := 81
abbrev f_linotyperef13_Just : FuncId := 82
abbrev f_linotyperef13_Row_Of : FuncId := 83
abbrev f_linotyperef13_RM : FuncId := 84
abbrev f_linotyperef13_Short : FuncId := 85
abbrev f_linotyperef13_Imm : FuncId := 86
abbrev f_linotyperef14_singles : FuncId := 87
abbrev f_linotyperef14_shifts : FuncId := 88
abbrev f_linotyperef14_doubles : FuncId := 89
abbrev f_linotyperef14_bits : FuncId := 90
abbrev f_linotyperef15_pushes : FuncId := 91
abbrev f_linotyperef15_bare : FuncId := 92
abbrev f_linotyperef15_just : FuncId := 93
abbrev f_linotyperef16_counts : FuncId := 94
abbrev f_linotyperef16_vexes : FuncId := 95
abbrev f_linotyperef16_two : FuncId := 96
abbrev f_linotyperef16_wide : FuncId := 97
abbrev f_linotyperef16_Place : FuncId := 98
abbrev f_linotyperef16_sums : FuncId := 99
abbrev f_linotyperef17_moves : FuncId := 100
abbrev f_linotyperef17_sums : FuncId := 101
abbrev f_linotyperef17_turns : FuncId := 102
abbrev f_linotyperef17_mixes : FuncId := 103
abbrev f_linotyperef17_whole : FuncId := 104
abbrev f_linotyperef17_shifts : FuncId := 105
abbrev f_linotyperef17_Byte : FuncId := 106
abbrev f_linotyperef17_Load : FuncId := 107
abbrev f_linotyperef18_move : FuncId := 108
abbrev f_linotyperef18_sums : FuncId := 109
abbrev f_linotyperef18_whole : FuncId := 110
abbrev f_linotyperef18_others : FuncId := 111
abbrev f_linotyperef18_fused : FuncId := 112
abbrev f_linotyperef21_state_two : FuncId := 113
abbrev f_linotyperef21_state_three : FuncId := 114
abbrev f_linotyperef21_state_all : FuncId := 115
abbrev f_linotyperef21_state_ahead : FuncId := 116
abbrev f_linotyperef21_state_bits : FuncId := 117
abbrev f_linotyperef21_escape : FuncId := 118
abbrev f_linotyperef12_Modrm : FuncId := 119
abbrev f_linotyperef21_state_bare : FuncId := 120
abbrev f_linotyperef21_state_place : FuncId := 121
abbrev f_linotyperef09_Read : FuncId := 122
abbrev f_linotyperef12_Slot : FuncId := 123
abbrev f_linotyperef12_width : FuncId := 124
abbrev f_linotyperef12_has : FuncId := 125
abbrev f_linotyperef08_Check : FuncId := 126
abbrev f_linotyperef06_Canon : FuncId := 127
abbrev f_linotyperef08_Bits : FuncId := 128
abbrev f_linotyperef06_Imm : FuncId := 129
abbrev f_linotyperef08_is : FuncId := 130
abbrev f_linotyperef08_swap : FuncId := 131
abbrev f_linotyperef21_state_arg : FuncId := 132
abbrev f_alu_Rows : FuncId := 133
abbrev f_unary_Rows : FuncId := 134
abbrev f_flow_Rows : FuncId := 135
abbrev f_bits_Rows : FuncId := 136
abbrev f_sse_Rows : FuncId := 137
abbrev f_avx_Rows : FuncId := 138
abbrev f_decode_escape : FuncId := 139
abbrev f_decode_reader_allowed : FuncId := 140
abbrev f_vex_Read : FuncId := 141
abbrev f_decode_reader_extension : FuncId := 142
abbrev f_slices_Index_int_int : FuncId := 143
abbrev f_modrm_split : FuncId := 144
abbrev f_modrm_sibPlace : FuncId := 145
abbrev f_modrm_width : FuncId := 146
abbrev f_mem_Canon : FuncId := 147
abbrev f_field_sized : FuncId := 148
abbrev f_field_Sign : FuncId := 149
abbrev f_decode_reader_register : FuncId := 150
abbrev f_decode_fixed : FuncId := 151
abbrev f_inst_Check : FuncId := 152
abbrev f_inst_Bits : FuncId := 153
abbrev f_slices_Clone_api_Arg_api_Arg : FuncId := 154
abbrev f_operand_Canon : FuncId := 155
abbrev f_operand_Imm : FuncId := 156
abbrev f_inst_draft_doubled : FuncId := 157
abbrev f_inst_draft_placed : FuncId := 158
abbrev f_inst_draft_ranked : FuncId := 159
abbrev f_linotyperef13_Two : FuncId := 160
abbrev f_linotyperef13_Byte : FuncId := 161
abbrev f_linotyperef13_A : FuncId := 162
abbrev f_linotyperef13_RM8 : FuncId := 163
abbrev f_linotyperef13_R8 : FuncId := 164
abbrev f_linotyperef13_Plus : FuncId := 165
abbrev f_linotyperef14_parts : FuncId := 166
abbrev f_linotyperef14_one : FuncId := 167
abbrev f_linotyperef14_cl : FuncId := 168
abbrev f_linotyperef15_stack : FuncId := 169
abbrev f_linotyperef15_wide : FuncId := 170
abbrev f_linotyperef16_V : FuncId := 171
abbrev f_linotyperef17_move : FuncId := 172
abbrev f_linotyperef17_Big : FuncId := 173
abbrev f_linotyperef17_Store : FuncId := 174
abbrev f_linotyperef17_four : FuncId := 175
abbrev f_linotyperef17_plain : FuncId := 176
abbrev f_linotyperef17_by : FuncId := 177
abbrev f_linotyperef17_Of : FuncId := 178
abbrev f_linotyperef18_both : FuncId := 179
abbrev f_linotyperef18_one : FuncId := 180
abbrev f_linotyperef18_four : FuncId := 181
abbrev f_linotyperef18_pair : FuncId := 182
abbrev f_linotyperef18_three : FuncId := 183
abbrev f_linotyperef18_more : FuncId := 184
abbrev f_linotyperef21_state_last : FuncId := 185
abbrev f_linotyperef21_state_is : FuncId := 186
abbrev f_linotyperef21_state_rm : FuncId := 187
abbrev f_linotyperef09_sib : FuncId := 188
abbrev f_linotyperef09_disp : FuncId := 189
abbrev f_linotyperef09_width : FuncId := 190
abbrev f_linotyperef09_big : FuncId := 191
abbrev f_linotyperef07_Valid : FuncId := 192
abbrev f_linotyperef06_Check : FuncId := 193
abbrev f_linotyperef08_many : FuncId := 194
abbrev f_linotyperef05_Canon : FuncId := 195
abbrev f_linotyperef07_Imm : FuncId := 196
abbrev f_linotyperef06_Size : FuncId := 197
abbrev f_linotyperef21_fixed : FuncId := 198
abbrev f_linotyperef21_reg : FuncId := 199
abbrev f_linotyperef21_class : FuncId := 200
abbrev f_linotyperef21_size : FuncId := 201
abbrev f_linotyperef21_number : FuncId := 202
abbrev f_alu_rows : FuncId := 203
abbrev f_unary_list_single : FuncId := 204
abbrev f_unary_list_shifts : FuncId := 205
abbrev f_unary_list_pairs : FuncId := 206
abbrev f_unary_list_bits : FuncId := 207
abbrev f_unary_list_scans : FuncId := 208
abbrev f_flow_stack : FuncId := 209
abbrev f_flow_jumps : FuncId := 210
abbrev f_alu_Single : FuncId := 211
abbrev f_flow_Rows_1 : FuncId := 212
abbrev f_alu_Imm : FuncId := 213
abbrev f_flow_Rows_2 : FuncId := 214
abbrev f_alu_RM : FuncId := 215
abbrev f_flow_Rows_3 : FuncId := 216
abbrev f_alu_Wide : FuncId := 217
abbrev f_alu_R : FuncId := 218
abbrev f_strings_Split : FuncId := 219
abbrev f_strings_Fields : FuncId := 220
abbrev f_bits_widths : FuncId := 221
abbrev f_bits_width_has : FuncId := 222
abbrev f_bits_width_form : FuncId := 223
abbrev f_sse_moves : FuncId := 224
abbrev f_sse_words : FuncId := 225
abbrev f_sse_sums : FuncId := 226
abbrev f_sse_logic : FuncId := 227
abbrev f_sse_comparisons : FuncId := 228
abbrev f_sse_conversions : FuncId := 229
abbrev f_sse_shuffles : FuncId := 230
abbrev f_sse_whole : FuncId := 231
abbrev f_sse_shifts : FuncId := 232
abbrev f_sse_others : FuncId := 233
abbrev f_avx_join_api_Form : FuncId := 234
abbrev f_avx_moves : FuncId := 235
abbrev f_avx_scalar : FuncId := 236
abbrev f_avx_packed : FuncId := 237
abbrev f_avx_whole : FuncId := 238
abbrev f_avx_shuffles : FuncId := 239
abbrev f_avx_others : FuncId := 240
abbrev f_avx_fused : FuncId := 241
abbrev f_vex_prefix : FuncId := 242
abbrev f_rex_Bits : FuncId := 243
abbrev f_mem_Check : FuncId := 244
abbrev f_field_counted : FuncId := 245
abbrev f_name_Valid : FuncId := 246
abbrev f_operand_Check : FuncId := 247
abbrev f_name_Imm : FuncId := 248
abbrev f_operand_Size : FuncId := 249
abbrev f_inst_draft_are : FuncId := 250
abbrev f_inst_draft_turn : FuncId := 251
abbrev f_inst_draft_alike : FuncId := 252
abbrev f_linotyperef18_wide : FuncId := 253
abbrev f_linotyperef21_pp : FuncId := 254
abbrev f_linotyperef09_sign : FuncId := 255
abbrev f_linotyperef03_Valid : FuncId := 256
abbrev f_linotyperef05_Check : FuncId := 257
abbrev f_linotyperef05_none : FuncId := 258
abbrev f_linotyperef03_Size : FuncId := 259
abbrev f_alu_rows_1 : FuncId := 260
abbrev f_alu_sums : FuncId := 261
abbrev f_alu_moves : FuncId := 262
abbrev f_alu_tests : FuncId := 263
abbrev f_alu_extensions : FuncId := 264
abbrev f_unary_list_one : FuncId := 265
abbrev f_unary_list_wide : FuncId := 266
abbrev f_alu_Fixed : FuncId := 267
abbrev f_alu_Wider : FuncId := 268
abbrev f_alu_Code : FuncId := 269
abbrev f_unary_list_bare : FuncId := 270
abbrev f_flow_sized : FuncId := 271
abbrev f_alu_over_alu_width : FuncId := 272
abbrev f_alu_Wide_1 : FuncId := 273
abbrev f_alu_widths : FuncId := 274
abbrev f_strings_genSplit : FuncId := 275
abbrev f_strings_FieldsFunc : FuncId := 276
abbrev f_unicode_IsSpace : FuncId := 277
abbrev f_bits_number : FuncId := 278
abbrev f_bits_prefix : FuncId := 279
abbrev f_bits_width_operand : FuncId := 280
abbrev f_sse_moves_1 : FuncId := 281
abbrev f_sse_form : FuncId := 282
abbrev f_sse_x : FuncId := 283
abbrev f_sse_m16 : FuncId := 284
abbrev f_sse_m4 : FuncId := 285
abbrev f_sse_m8 : FuncId := 286
abbrev f_sse_rm : FuncId := 287
abbrev f_sse_long : FuncId := 288
abbrev f_sse_sums_1 : FuncId := 289
abbrev f_sse_logic_1 : FuncId := 290
abbrev f_sse_reg : FuncId := 291
abbrev f_sse_imm : FuncId := 292
abbrev f_sse_shifts_1 : FuncId := 293
abbrev f_sse_digit : FuncId := 294
abbrev f_avx_free : FuncId := 295
abbrev f_avx_x : FuncId := 296
abbrev f_avx_m : FuncId := 297
abbrev f_avx_both : FuncId := 298
abbrev f_avx_row_form : FuncId := 299
abbrev f_avx_v : FuncId := 300
abbrev f_avx_m4 : FuncId := 301
abbrev f_avx_m8 : FuncId := 302
abbrev f_avx_one : FuncId := 303
abbrev f_avx_is4 : FuncId := 304
abbrev f_avx_imm : FuncId := 305
abbrev f_mem_sized : FuncId := 306
abbrev f_mem_wide : FuncId := 307
abbrev f_mem_scaled : FuncId := 308
abbrev f_reg_Valid : FuncId := 309
abbrev f_reg_Size : FuncId := 310
abbrev f_linotyperef05_in : FuncId := 311
abbrev f_linotyperef05_wide : FuncId := 312
abbrev f_alu_one : FuncId := 313
abbrev f_alu_Wider_1 : FuncId := 314
abbrev f_strings_explode : FuncId := 315
abbrev f_strings_Count : FuncId := 316
abbrev f_strings_Index : FuncId := 317
abbrev f_unicode_isExcludingLatin : FuncId := 318
abbrev f_strconv_ParseInt : FuncId := 319
abbrev f_reg_numbers : FuncId := 320
abbrev f_unicode_utf8_RuneCountInString : FuncId := 321
abbrev f_unicode_utf8_DecodeRuneInString : FuncId := 322
abbrev f_internal_stringslite_Index : FuncId := 324
abbrev f_unicode_is16 : FuncId := 325
abbrev f_unicode_is32 : FuncId := 326
abbrev f_internal_strconv_ParseInt : FuncId := 327
abbrev f_strconv_toError : FuncId := 328
abbrev f_unicode_utf8_decodeRuneInStringSlow : FuncId := 329
abbrev f_internal_stringslite_IndexByte : FuncId := 330
abbrev f_internal_bytealg_Cutover : FuncId := 332
abbrev f_internal_bytealg_IndexRabinKarp_string : FuncId := 333
abbrev f_internal_strconv_ParseUint : FuncId := 334
abbrev f_strconv_syntaxError : FuncId := 335
abbrev f_strconv_rangeError : FuncId := 336
abbrev f_strconv_baseError : FuncId := 337
abbrev f_strconv_bitSizeError : FuncId := 338
abbrev f_internal_bytealg_hashStr_string : FuncId := 340
abbrev f_internal_strconv_lower : FuncId := 341
abbrev f_internal_strconv_underscoreOK : FuncId := 342
abbrev f_internal_stringslite_Clone : FuncId := 343
abbrev f_errors_New : FuncId := 344
abbrev f_strconv_Itoa : FuncId := 345
abbrev f_internal_strconv_Itoa : FuncId := 346
abbrev f_internal_strconv_FormatInt : FuncId := 347
abbrev f_internal_strconv_small : FuncId := 348
abbrev f_internal_strconv_numDigits : FuncId := 349
abbrev f_internal_strconv_formatBase10 : FuncId := 350
abbrev f_internal_strconv_formatBits : FuncId := 351
abbrev f_internal_strconv_log10Pow2 : FuncId := 352
abbrev f_math_bits_Len64 : FuncId := 353
abbrev f_internal_strconv_bool2_int : FuncId := 354
abbrev f_internal_strconv_isPowerOfTwo : FuncId := 355
abbrev f_math_bits_TrailingZeros : FuncId := 356
abbrev f_math_bits_TrailingZeros32 : FuncId := 357
abbrev f_math_bits_TrailingZeros64 : FuncId := 358
abbrev f_alu_width_set : FuncId := 375
abbrev f_gosem_cut_vars : FuncId := 394
abbrev T_internal_abi_BoundsErrorCode : TypeId := 6
abbrev T_runtime_boundsError : TypeId := 8
abbrev T_runtime_errorString : TypeId := 10
abbrev T_runtime_plainError : TypeId := 11
abbrev T_runtime_errorAddressString : TypeId := 14
abbrev T_internal_runtime_maps_unhashableTypeError : TypeId := 19
abbrev T_api_Inst : TypeId := 27
abbrev T_api_Errno : TypeId := 28
abbrev T_api_Form : TypeId := 37
abbrev T_api_Reg : TypeId := 43
abbrev T_api_Mem : TypeId := 45
abbrev T_api_Arg : TypeId := 47
abbrev T_decode_node : TypeId := 68
abbrev T_api_Seen : TypeId := 70
abbrev T_decode_reader : TypeId := 72
abbrev T_linotyperef21_state : TypeId := 77
abbrev T_table_list : TypeId := 88
abbrev T_linotyperef13_Part : TypeId := 102
abbrev T_linotyperef13_Row : TypeId := 106
abbrev T_api_Vex : TypeId := 130
abbrev T_inst_draft : TypeId := 146
abbrev T_iter_Seq_api_Form : TypeId := 172
abbrev T_unary_list : TypeId := 174
abbrev T_alu_Part : TypeId := 178
abbrev T_bits_width : TypeId := 186
abbrev T_alu_width : TypeId := 214
abbrev T_sse_part : TypeId := 227
abbrev T_avx_row : TypeId := 240
abbrev T_avx_part : TypeId := 243
abbrev T_strings_span : TypeId := 254
abbrev T_error : TypeId := 259
abbrev T_unicode_RangeTable : TypeId := 271
abbrev T_unicode_Range16 : TypeId := 274
abbrev T_unicode_Range32 : TypeId := 277
abbrev T_internal_strconv_Error : TypeId := 282
abbrev T_unicode_utf8_acceptRange : TypeId := 289
abbrev T_strconv_NumError : TypeId := 296
abbrev T_errors_errorString : TypeId := 301
abbrev T_runtime_TypeAssertionError : TypeId := 317
abbrev T_runtime_PanicNilError : TypeId := 320
abbrev T_internal_abi_TFlag : TypeId := 321
abbrev T_internal_abi_Kind : TypeId := 322
abbrev T_internal_abi_NameOff : TypeId := 324
abbrev T_internal_abi_TypeOff : TypeId := 325
abbrev T_internal_abi_Type : TypeId := 327
abbrev TM_p_decode_node : TypeId := 66
noncomputable abbrev F_decode_Decode : Func := Tryz.f9
theorem ret_decode_Decode (H0 H : Heap) (k : Value → Heap → Prop) (A : Env) : Rt prog Tryz.f9 H0 k A H = ldR true 2 (A 2) H fun v => Ret H0 k (.tuple #[v, A 3, A 4]) H := rt_cnn (ty := 27) (by kernel_rfl) (by kernel_rfl) (by kernel_rfl)
/-- linotype/decode.Decode -/
noncomputable def pc_decode_Decode : PC :=
  (.seq
   (.ops [⟨some 2, .alloc T_api_Inst [.int .i64 0, .slice none 0 0], none, false⟩, ⟨some 3, .mv (.const (.int .i64 0)), none, false⟩, ⟨some 4, .mv (.const (.int .i64 0)), none, false⟩])
   (.seq
    (.ops [⟨some 5, .mv (.const (.int .i64 4)), none, false⟩])
    (.seq
     (.seq
      (.ops [⟨some 11, .mv (t 0), none, false⟩, ⟨some 12, .call f_decode_find [(t 11)], none, false⟩, ⟨some 13, .lenS (t 12), none, false⟩, ⟨some 14, .mv (.const (.int .i64 0)), none, false⟩])
      (.block 0
       (.loop
        (.seq
         (.ops [⟨some 15, .bin .lss (t 14) (t 13), none, false⟩])
         (.seq
          (.cond (t 15)
           .skip
           (.exit 0))
          (.seq
           (.block 1
            (.seq
             (.ops [⟨some 16, .idxS 10 (t 12) (t 14), none, false⟩, ⟨some 17, .ld true 10 (t 16), none, false⟩, ⟨some 7, .alloc T_api_Form [.int .i64 0, .slice none 0 0, .slice none 0 0, .int .i64 0, .int .i64 0, .int .i64 0, .int .i64 0, .int .i64 0, .bool false, .int .i64 0], none, false⟩, ⟨none, .st 10 (t 7) (t 17), none, false⟩])
             (.seq
              (.ops [⟨some 19, .ld true 10 (t 7), none, false⟩, ⟨some 20, .mv (t 0), none, false⟩, ⟨some 21, .call f_decode_read [(t 19), (t 20)], none, false⟩, ⟨some 18, .mv (t 21), none, false⟩, ⟨some 22, .ext (t 18) 0, none, false⟩, ⟨some 23, .ext (t 18) 1, none, false⟩, ⟨some 24, .ext (t 18) 2, none, false⟩, ⟨some 8, .alloc T_api_Inst [.int .i64 0, .slice none 0 0], none, false⟩, ⟨none, .st 2 (t 8) (t 22), none, false⟩, ⟨some 9, .mv (t 23), none, false⟩, ⟨some 10, .mv (t 24), none, false⟩])
              (.seq
               (.ops [⟨some 25, .mv (t 10), none, false⟩])
               (.block 2
                (.seq
                 (.ops [⟨some 27, .bin .eql (t 25) (.const (.int .i64 0)), none, false⟩, ⟨some 26, .mv (t 27), none, false⟩])
                 (.cond (t 26)
                  (.seq
                   (.ops [⟨some 28, .ld true 2 (t 8), none, false⟩, ⟨some 29, .mv (t 9), none, false⟩, ⟨none, .st 2 (t 2) (t 28), none, false⟩, ⟨some 3, .mv (t 29), none, false⟩, ⟨some 4, .mv (.const (.int .i64 0)), none, false⟩])
                   .ret)
                  (.seq
                   (.ops [⟨some 31, .bin .eql (t 25) (.const (.int .i64 9)), none, false⟩, ⟨some 30, .mv (t 31), none, false⟩])
                   (.cond (t 30)
                    (.ops [⟨some 5, .mv (.const (.int .i64 9)), none, false⟩])
                    .skip)))))))))
           (.ops [⟨some 32, .bin .add (t 14) (.const (.int .i64 1)), none, false⟩, ⟨some 14, .mv (t 32), none, false⟩])))))))
     (.seq
      (.ops [⟨some 33, .build [.int .i64 0, .slice none 0 0] [], none, false⟩, ⟨some 34, .mv (t 5), none, false⟩, ⟨none, .st 2 (t 2) (t 33), none, false⟩, ⟨some 3, .mv (.const (.int .i64 0)), none, false⟩, ⟨some 4, .mv (t 34), none, false⟩])
      .ret))))
theorem comp_decode_Decode : Tryz.f9.body.bind (comp prog Tryz.f9.ntmps) = some pc_decode_Decode := by kernel_rfl
theorem in_decode_Decode {a0 : Value} {H : Heap} {k : Value → Heap → Prop} (h : H.Wf → pexec prog pc_decode_Decode ⟨Rt prog Tryz.f9 H k, noEx⟩ (Rt prog Tryz.f9 H k) (upd U 0 a0) H) : CallQ prog f_decode_Decode [a0] H k := call_in Tryz.func9 comp_decode_Decode (by kernel_rfl) (by kernel_rfl) (env1 a0) h
noncomputable abbrev F_linotypekit_SameForm : Func := Tryz.f17
theorem ret_linotypekit_SameForm (H0 H : Heap) (k : Value → Heap → Prop) (A : Env) : Rt prog Tryz.f17 H0 k A H = Ret H0 k (A 4) H := rt_1 (by kernel_rfl) (by kernel_rfl)
/-- linotype/linotypekit.SameForm -/
noncomputable def pc_linotypekit_SameForm : PC :=
  (.seq
   (.ops [⟨some 2, .box T_api_Form (t 0), none, false⟩, ⟨some 3, .box T_api_Form (t 1), none, false⟩, ⟨some 4, .mv (.const (.bool false)), none, false⟩])
   (.seq
    (.ops [⟨some 5, .fldA 0 (t 2), none, false⟩, ⟨some 6, .ld false 1 (t 5), none, false⟩, ⟨some 7, .fldA 0 (t 3), none, false⟩, ⟨some 8, .ld false 1 (t 7), none, false⟩, ⟨some 9, .bin .eql (t 6) (t 8), none, false⟩, ⟨some 10, .mv (t 9), none, false⟩, ⟨some 11, .fldA 1 (t 2), some (10, true), false⟩, ⟨some 12, .ld false 1 (t 11), some (10, true), false⟩, ⟨some 13, .fldA 1 (t 3), some (10, true), false⟩, ⟨some 14, .ld false 1 (t 13), some (10, true), false⟩, ⟨some 15, .call f_linotypekit_SameInts [(t 12), (t 14)], some (10, true), false⟩, ⟨some 16, .pick (t 10) (t 15) (.const (.bool false)), none, false⟩, ⟨some 17, .mv (t 16), none, false⟩, ⟨some 18, .fldA 2 (t 2), some (17, true), false⟩, ⟨some 19, .ld false 1 (t 18), some (17, true), false⟩, ⟨some 20, .fldA 2 (t 3), some (17, true), false⟩, ⟨some 21, .ld false 1 (t 20), some (17, true), false⟩, ⟨some 22, .call f_linotypekit_SameInts [(t 19), (t 21)], some (17, true), false⟩, ⟨some 23, .pick (t 17) (t 22) (.const (.bool false)), none, false⟩, ⟨some 24, .mv (t 23), none, false⟩, ⟨some 25, .fldA 3 (t 2), some (24, true), false⟩, ⟨some 26, .ld false 1 (t 25), some (24, true), false⟩, ⟨some 27, .fldA 3 (t 3), some (24, true), false⟩, ⟨some 28, .ld false 1 (t 27), some (24, true), false⟩, ⟨some 29, .bin .eql (t 26) (t 28), some (24, true), false⟩, ⟨some 30, .pick (t 24) (t 29) (.const (.bool false)), none, false⟩, ⟨some 31, .mv (t 30), none, false⟩, ⟨some 32, .fldA 4 (t 2), some (31, true), false⟩, ⟨some 33, .ld false 1 (t 32), some (31, true), false⟩, ⟨some 34, .fldA 4 (t 3), some (31, true), false⟩, ⟨some 35, .ld false 1 (t 34), some (31, true), false⟩, ⟨some 36, .bin .eql (t 33) (t 35), some (31, true), false⟩, ⟨some 37, .pick (t 31) (t 36) (.const (.bool false)), none, false⟩, ⟨some 38, .mv (t 37), none, false⟩, ⟨some 39, .fldA 5 (t 2), some (38, true), false⟩, ⟨some 40, .ld false 1 (t 39), some (38, true), false⟩, ⟨some 41, .fldA 5 (t 3), some (38, true), false⟩, ⟨some 42, .ld false 1 (t 41), some (38, true), false⟩, ⟨some 43, .bin .eql (t 40) (t 42), some (38, true), false⟩, ⟨some 44, .pick (t 38) (t 43) (.const (.bool false)), none, false⟩, ⟨some 45, .mv (t 44), none, false⟩, ⟨some 46, .fldA 6 (t 2), some (45, true), false⟩, ⟨some 47, .ld false 1 (t 46), some (45, true), false⟩, ⟨some 48, .fldA 6 (t 3), some (45, true), false⟩, ⟨some 49, .ld false 1 (t 48), some (45, true), false⟩, ⟨some 50, .bin .eql (t 47) (t 49), some (45, true), false⟩, ⟨some 51, .pick (t 45) (t 50) (.const (.bool false)), none, false⟩, ⟨some 52, .mv (t 51), none, false⟩, ⟨some 53, .fldA 7 (t 2), some (52, true), false⟩, ⟨some 54, .ld false 1 (t 53), some (52, true), false⟩, ⟨some 55, .fldA 7 (t 3), some (52, true), false⟩, ⟨some 56, .ld false 1 (t 55), some (52, true), false⟩, ⟨some 57, .bin .eql (t 54) (t 56), some (52, true), false⟩, ⟨some 58, .pick (t 52) (t 57) (.const (.bool false)), none, false⟩, ⟨some 59, .mv (t 58), none, false⟩, ⟨some 60, .fldA 8 (t 2), some (59, true), false⟩, ⟨some 61, .ld false 1 (t 60), some (59, true), false⟩, ⟨some 62, .fldA 8 (t 3), some (59, true), false⟩, ⟨some 63, .ld false 1 (t 62), some (59, true), false⟩, ⟨some 64, .beq false (t 61) (t 63), some (59, true), false⟩, ⟨some 65, .pick (t 59) (t 64) (.const (.bool false)), none, false⟩, ⟨some 66, .mv (t 65), none, false⟩, ⟨some 67, .fldA 9 (t 2), some (66, true), false⟩, ⟨some 68, .ld false 1 (t 67), some (66, true), false⟩, ⟨some 69, .fldA 9 (t 3), some (66, true), false⟩, ⟨some 70, .ld false 1 (t 69), some (66, true), false⟩, ⟨some 71, .bin .eql (t 68) (t 70), some (66, true), false⟩, ⟨some 72, .pick (t 66) (t 71) (.const (.bool false)), none, false⟩, ⟨some 4, .mv (t 72), none, false⟩])
    .ret))
theorem comp_linotypekit_SameForm : Tryz.f17.body.bind (comp prog Tryz.f17.ntmps) = some pc_linotypekit_SameForm := by kernel_rfl
theorem in_linotypekit_SameForm {a0 a1 : Value} {H : Heap} {k : Value → Heap → Prop} (h : H.Wf → pexec prog pc_linotypekit_SameForm ⟨Rt prog Tryz.f17 H k, noEx⟩ (Rt prog Tryz.f17 H k) (upd (upd U 0 a0) 1 a1) H) : CallQ prog f_linotypekit_SameForm [a0, a1] H k := call_in Tryz.func17 comp_linotypekit_SameForm (by kernel_rfl) (by kernel_rfl) (env2 a0 a1) h
noncomputable abbrev F_table_Rows : Func := Tryz.f22
theorem ret_table_Rows (H0 H : Heap) (k : Value → Heap → Prop) (A : Env) : Rt prog Tryz.f22 H0 k A H = Ret H0 k (A 0) H := rt_1 (by kernel_rfl) (by kernel_rfl)
/-- linotype/table.Rows -/
noncomputable def pc_table_Rows : PC :=
  (.seq
   (.ops [⟨some 0, .mv (.const (.slice none 0 0)), none, false⟩])
   (.seq
    (.ops [⟨some 1, .call f_table_collect [(.const (.int .i64 1)), (.const (.int .i64 322)), (.func f_table_Rows_1)], none, false⟩, ⟨some 0, .mv (t 1), none, false⟩])
    .ret))
theorem comp_table_Rows : Tryz.f22.body.bind (comp prog Tryz.f22.ntmps) = some pc_table_Rows := by kernel_rfl
theorem in_table_Rows {H : Heap} {k : Value → Heap → Prop} (h : H.Wf → pexec prog pc_table_Rows ⟨Rt prog Tryz.f22 H k, noEx⟩ (Rt prog Tryz.f22 H k) U H) : CallQ prog f_table_Rows [] H k := call_in Tryz.func22 comp_table_Rows (by kernel_rfl) (by kernel_rfl) env0 h
noncomputable abbrev F_linotypekit_Pick : Func := Tryz.f24
theorem ret_linotypekit_Pick (H0 H : Heap) (k : Value → Heap → Prop) (A : Env) : Rt prog Tryz.f24 H0 k A H = Ret H0 k (A 4) H := rt_1 (by kernel_rfl) (by kernel_rfl)
/-- linotype/linotypekit.Pick -/
noncomputable def pc_linotypekit_Pick : PC :=
  (.seq
   (.ops [⟨some 4, .mv (.const (.int .i64 0)), none, false⟩])
   (.seq
    (.seq
     (.ops [⟨some 5, .mv (t 1), none, false⟩, ⟨some 6, .bin .lss (t 5) (.const (.int .i64 1)), none, false⟩])
     (.cond (t 6)
      (.seq
       (.ops [⟨some 4, .mv (.const (.int .i64 0)), none, false⟩])
       .ret)
      .skip))
    (.seq
     (.ops [⟨some 7, .mv (t 0), none, false⟩, ⟨some 8, .mv (t 1), none, false⟩, ⟨some 9, .bin .rem (t 7) (t 8), none, false⟩, ⟨some 0, .mv (t 9), none, false⟩])
     (.seq
      (.seq
       (.ops [⟨some 10, .mv (t 0), none, false⟩, ⟨some 11, .bin .lss (t 10) (.const (.int .i64 0)), none, false⟩])
       (.cond (t 11)
        (.ops [⟨some 12, .mv (t 0), none, false⟩, ⟨some 13, .mv (t 1), none, false⟩, ⟨some 14, .bin .add (t 12) (t 13), none, false⟩, ⟨some 0, .mv (t 14), none, false⟩])
        .skip))
      (.seq
       (.ops [⟨some 15, .mv (t 0), none, false⟩, ⟨some 4, .mv (t 15), none, false⟩])
       .ret)))))
theorem comp_linotypekit_Pick : Tryz.f24.body.bind (comp prog Tryz.f24.ntmps) = some pc_linotypekit_Pick := by kernel_rfl
theorem in_linotypekit_Pick {a0 a1 : Value} {H : Heap} {k : Value → Heap → Prop} (h : H.Wf → pexec prog pc_linotypekit_Pick ⟨Rt prog Tryz.f24 H k, noEx⟩ (Rt prog Tryz.f24 H k) (upd (upd U 0 a0) 1 a1) H) : CallQ prog f_linotypekit_Pick [a0, a1] H k := call_in Tryz.func24 comp_linotypekit_Pick (by kernel_rfl) (by kernel_rfl) (env2 a0 a1) h
noncomputable abbrev F_decode_find : Func := Tryz.f25
theorem ret_decode_find (H0 H : Heap) (k : Value → Heap → Prop) (A : Env) : Rt prog Tryz.f25 H0 k A H = Ret H0 k (A 2) H := rt_1 (by kernel_rfl) (by kernel_rfl)
/-- linotype/decode.find -/
noncomputable def pc_decode_find : PC :=
  (.seq
   (.ops [⟨some 2, .mv (.const (.slice none 0 0)), none, false⟩])
   (.seq
    (.ops [⟨some 7, .call f_decode_trie [], none, false⟩, ⟨some 3, .mv (t 7), none, false⟩, ⟨some 4, .mv (.const (.bool true)), none, false⟩])
    (.seq
     (.seq
      (.ops [⟨some 8, .mv (t 0), none, false⟩, ⟨some 9, .lenS (t 8), none, false⟩, ⟨some 10, .mv (.const (.int .i64 0)), none, false⟩])
      (.block 0
       (.loop
        (.seq
         (.ops [⟨some 11, .bin .lss (t 10) (t 9), none, false⟩])
         (.seq
          (.cond (t 11)
           .skip
           (.exit 0))
          (.seq
           (.block 1
            (.seq
             (.ops [⟨some 12, .idxS 1 (t 8) (t 10), none, false⟩, ⟨some 13, .ld false 1 (t 12), none, false⟩, ⟨some 6, .mv (t 13), none, false⟩])
             (.seq
              (.seq
               (.ops [⟨some 14, .mv (t 3), none, false⟩, ⟨some 15, .call f_decode_node_open [(t 14)], none, false⟩, ⟨some 16, .not (t 15), none, false⟩])
               (.cond (t 16)
                (.exit 0)
                .skip))
              (.seq
               (.seq
                (.ops [⟨some 17, .mv (t 4), none, false⟩, ⟨some 18, .mv (t 17), none, false⟩, ⟨some 19, .mv (t 6), some (18, true), false⟩, ⟨some 20, .bin .and (t 19) (.const (.int .u8 240)), some (18, true), false⟩, ⟨some 21, .bin .eql (t 20) (.const (.int .u8 64)), some (18, true), false⟩, ⟨some 22, .pick (t 18) (t 21) (.const (.bool false)), none, false⟩])
                (.cond (t 22)
                 (.seq
                  (.ops [⟨some 4, .mv (.const (.bool false)), none, false⟩])
                  (.exit 1))
                 .skip))
               (.seq
                (.ops [⟨some 23, .mv (t 4), none, false⟩, ⟨some 24, .mv (t 23), none, false⟩, ⟨some 25, .mv (t 6), some (24, true), false⟩, ⟨some 26, .bin .eql (t 25) (.const (.int .u8 102)), some (24, true), false⟩, ⟨some 27, .mv (t 26), some (24, true), false⟩, ⟨some 28, .mv (t 6), some (27, false), false⟩, ⟨some 29, .bin .eql (t 28) (.const (.int .u8 242)), some (27, false), false⟩, ⟨some 30, .pick (t 27) (.const (.bool true)) (t 29), some (24, true), false⟩, ⟨some 31, .mv (t 30), some (24, true), false⟩, ⟨some 32, .mv (t 6), some (31, false), false⟩, ⟨some 33, .bin .eql (t 32) (.const (.int .u8 243)), some (31, false), false⟩, ⟨some 34, .pick (t 31) (.const (.bool true)) (t 33), some (24, true), false⟩, ⟨some 35, .pick (t 24) (t 34) (.const (.bool false)), none, false⟩, ⟨some 4, .mv (t 35), none, false⟩])
                (.ops [⟨some 36, .mv (t 3), none, false⟩, ⟨some 37, .mv (t 6), none, false⟩, ⟨some 38, .call f_decode_node_child [(t 36), (t 37)], none, false⟩, ⟨some 3, .mv (t 38), none, false⟩]))))))
           (.ops [⟨some 39, .bin .add (t 10) (.const (.int .i64 1)), none, false⟩, ⟨some 10, .mv (t 39), none, false⟩])))))))
     (.seq
      (.ops [⟨some 40, .mv (t 3), none, false⟩, ⟨some 41, .gen (.nilCheck (t 40)), none, false⟩, ⟨some 42, .fldA 1 (t 41), none, false⟩, ⟨some 43, .ld false 1 (t 42), none, false⟩, ⟨some 2, .mv (t 43), none, false⟩])
      .ret))))
theorem comp_decode_find : Tryz.f25.body.bind (comp prog Tryz.f25.ntmps) = some pc_decode_find := by kernel_rfl
theorem in_decode_find {a0 : Value} {H : Heap} {k : Value → Heap → Prop} (h : H.Wf → pexec prog pc_decode_find ⟨Rt prog Tryz.f25 H k, noEx⟩ (Rt prog Tryz.f25 H k) (upd U 0 a0) H) : CallQ prog f_decode_find [a0] H k := call_in Tryz.func25 comp_decode_find (by kernel_rfl) (by kernel_rfl) (env1 a0) h
noncomputable abbrev F_table_Of : Func := Tryz.f31
theorem ret_table_Of (H0 H : Heap) (k : Value → Heap → Prop) (A : Env) : Rt prog Tryz.f31 H0 k A H = Ret H0 k (A 2) H := rt_1 (by kernel_rfl) (by kernel_rfl)
/-- linotype/table.Of -/
noncomputable def pc_table_Of : PC :=
  (.seq
   (.ops [⟨some 1, .box 3 (t 0), none, false⟩, ⟨some 2, .mv (.const (.slice none 0 0)), none, false⟩])
   (.seq
    (.ops [⟨some 3, .ld false 1 (t 1), none, false⟩, ⟨some 4, .ld false 1 (t 1), none, false⟩, ⟨some 5, .gen (.makeFunc (.func f_table_Of_1) #[] #[(t 1)]), none, false⟩, ⟨some 6, .call f_table_collect [(t 3), (t 4), (t 5)], none, false⟩, ⟨some 2, .mv (t 6), none, false⟩])
    .ret))
theorem comp_table_Of : Tryz.f31.body.bind (comp prog Tryz.f31.ntmps) = some pc_table_Of := by kernel_rfl
theorem in_table_Of {a0 : Value} {H : Heap} {k : Value → Heap → Prop} (h : H.Wf → pexec prog pc_table_Of ⟨Rt prog Tryz.f31 H k, noEx⟩ (Rt prog Tryz.f31 H k) (upd U 0 a0) H) : CallQ prog f_table_Of [a0] H k := call_in Tryz.func31 comp_table_Of (by kernel_rfl) (by kernel_rfl) (env1 a0) h
noncomputable abbrev F_linotypekit_SameInts : Func := Tryz.f34
theorem ret_linotypekit_SameInts (H0 H : Heap) (k : Value → Heap → Prop) (A : Env) : Rt prog Tryz.f34 H0 k A H = Ret H0 k (A 4) H := rt_1 (by kernel_rfl) (by kernel_rfl)
/-- linotype/linotypekit.SameInts -/
noncomputable def pc_linotypekit_SameInts : PC :=
  (.seq
   (.ops [⟨some 4, .mv (.const (.bool false)), none, false⟩])
   (.seq
    (.seq
     (.ops [⟨some 6, .mv (t 0), none, false⟩, ⟨some 7, .lenS (t 6), none, false⟩, ⟨some 8, .mv (t 1), none, false⟩, ⟨some 9, .lenS (t 8), none, false⟩, ⟨some 10, .bin .neq (t 7) (t 9), none, false⟩])
     (.cond (t 10)
      (.seq
       (.ops [⟨some 4, .mv (.const (.bool false)), none, false⟩])
       .ret)
      .skip))
    (.seq
     (.seq
      (.ops [⟨some 5, .mv (.const (.int .i64 0)), none, false⟩])
      (.block 0
       (.loop
        (.seq
         (.seq
          (.ops [⟨some 11, .mv (t 5), none, false⟩, ⟨some 12, .mv (t 0), none, false⟩, ⟨some 13, .lenS (t 12), none, false⟩, ⟨some 14, .bin .lss (t 11) (t 13), none, false⟩])
          (.cond (t 14)
           .skip
           (.exit 0)))
         (.seq
          (.block 1
           (.seq
            (.ops [⟨some 17, .mv (t 0), none, false⟩, ⟨some 18, .mv (t 5), none, false⟩, ⟨some 19, .idxS 1 (t 17) (t 18), none, false⟩, ⟨some 20, .ld false 1 (t 19), none, false⟩, ⟨some 21, .mv (t 1), none, false⟩, ⟨some 22, .mv (t 5), none, false⟩, ⟨some 23, .idxS 1 (t 21) (t 22), none, false⟩, ⟨some 24, .ld false 1 (t 23), none, false⟩, ⟨some 25, .bin .neq (t 20) (t 24), none, false⟩])
            (.cond (t 25)
             (.seq
              (.ops [⟨some 4, .mv (.const (.bool false)), none, false⟩])
              .ret)
             .skip)))
          (.ops [⟨some 15, .mv (t 5), none, false⟩, ⟨some 16, .bin .add (t 15) (.const (.int .i64 1)), none, false⟩, ⟨some 5, .mv (t 16), none, false⟩]))))))
     (.seq
      (.ops [⟨some 4, .mv (.const (.bool true)), none, false⟩])
      .ret))))
theorem comp_linotypekit_SameInts : Tryz.f34.body.bind (comp prog Tryz.f34.ntmps) = some pc_linotypekit_SameInts := by kernel_rfl
theorem in_linotypekit_SameInts {a0 a1 : Value} {H : Heap} {k : Value → Heap → Prop} (h : H.Wf → pexec prog pc_linotypekit_SameInts ⟨Rt prog Tryz.f34 H k, noEx⟩ (Rt prog Tryz.f34 H k) (upd (upd U 0 a0) 1 a1) H) : CallQ prog f_linotypekit_SameInts [a0, a1] H k := call_in Tryz.func34 comp_linotypekit_SameInts (by kernel_rfl) (by kernel_rfl) (env2 a0 a1) h
noncomputable abbrev F_table_collect : Func := Tryz.f35
theorem ret_table_collect (H0 H : Heap) (k : Value → Heap → Prop) (A : Env) : Rt prog Tryz.f35 H0 k A H = Ret H0 k (A 6) H := rt_1 (by kernel_rfl) (by kernel_rfl)
/-- linotype/table.collect -/
noncomputable def pc_table_collect : PC :=
  (.seq
   (.ops [⟨some 6, .mv (.const (.slice none 0 0)), none, false⟩])
   (.seq
    (.ops [⟨some 7, .mv (.const (.slice none 0 0)), none, false⟩])
    (.seq
     (.seq
      (.ops [⟨some 12, .call f_table_lists [], none, false⟩, ⟨some 13, .lenS (t 12), none, false⟩, ⟨some 14, .mv (.const (.int .i64 0)), none, false⟩])
      (.block 0
       (.loop
        (.seq
         (.ops [⟨some 15, .bin .lss (t 14) (t 13), none, false⟩])
         (.seq
          (.cond (t 15)
           .skip
           (.exit 0))
          (.seq
           (.block 1
            (.seq
             (.ops [⟨some 16, .idxS 3 (t 12) (t 14), none, false⟩, ⟨some 17, .ld true 3 (t 16), none, false⟩, ⟨some 9, .alloc T_table_list [.int .i64 0, .int .i64 0, .nilFunc], none, false⟩, ⟨none, .st 3 (t 9) (t 17), none, false⟩])
             (.seq
              (.seq
               (.ops [⟨some 18, .mv (t 1), none, false⟩, ⟨some 19, .fldA 0 (t 9), none, false⟩, ⟨some 20, .ld false 1 (t 19), none, false⟩, ⟨some 21, .bin .lss (t 18) (t 20), none, false⟩, ⟨some 22, .mv (t 21), none, false⟩, ⟨some 23, .mv (t 0), some (22, false), false⟩, ⟨some 24, .fldA 1 (t 9), some (22, false), false⟩, ⟨some 25, .ld false 1 (t 24), some (22, false), false⟩, ⟨some 26, .bin .gtr (t 23) (t 25), some (22, false), false⟩, ⟨some 27, .pick (t 22) (.const (.bool true)) (t 26), none, false⟩])
               (.cond (t 27)
                (.exit 1)
                .skip))
              (.seq
               (.ops [⟨some 28, .fldA 2 (t 9), none, false⟩, ⟨some 29, .ld false 1 (t 28), none, false⟩, ⟨some 30, .callv (t 29) [], none, false⟩, ⟨some 31, .lenS (t 30), none, false⟩, ⟨some 32, .mv (.const (.int .i64 0)), none, false⟩])
               (.block 2
                (.loop
                 (.seq
                  (.ops [⟨some 33, .bin .lss (t 32) (t 31), none, false⟩])
                  (.seq
                   (.cond (t 33)
                    .skip
                    (.exit 2))
                   (.seq
                    (.block 3
                     (.seq
                      (.ops [⟨some 34, .idxS 10 (t 30) (t 32), none, false⟩, ⟨some 35, .ld true 10 (t 34), none, false⟩, ⟨some 11, .alloc T_api_Form [.int .i64 0, .slice none 0 0, .slice none 0 0, .int .i64 0, .int .i64 0, .int .i64 0, .int .i64 0, .int .i64 0, .bool false, .int .i64 0], none, false⟩, ⟨none, .st 10 (t 11) (t 35), none, false⟩])
                      (.seq
                       (.ops [⟨some 36, .mv (t 2), none, false⟩, ⟨some 37, .ld true 10 (t 11), none, false⟩, ⟨some 38, .callv (t 36) [(t 37)], none, false⟩])
                       (.cond (t 38)
                        (.ops [⟨some 39, .mv (t 7), none, false⟩, ⟨some 40, .ld true 10 (t 11), none, false⟩, ⟨some 41, .bslice T_api_Form 10 1 [.int .i64 0, .slice none 0 0, .slice none 0 0, .int .i64 0, .int .i64 0, .int .i64 0, .int .i64 0, .int .i64 0, .bool false, .int .i64 0] [(0, (t 40))], none, false⟩, ⟨some 42, .app T_api_Form 10 112 (t 39) (t 41), none, false⟩, ⟨some 7, .mv (t 42), none, false⟩])
                        .skip))))
                    (.ops [⟨some 43, .bin .add (t 32) (.const (.int .i64 1)), none, false⟩, ⟨some 32, .mv (t 43), none, false⟩]))))))))))
           (.ops [⟨some 44, .bin .add (t 14) (.const (.int .i64 1)), none, false⟩, ⟨some 14, .mv (t 44), none, false⟩])))))))
     (.seq
      (.ops [⟨some 45, .mv (t 7), none, false⟩, ⟨some 6, .mv (t 45), none, false⟩])
      .ret))))
theorem comp_table_collect : Tryz.f35.body.bind (comp prog Tryz.f35.ntmps) = some pc_table_collect := by kernel_rfl
theorem in_table_collect {a0 a1 a2 : Value} {H : Heap} {k : Value → Heap → Prop} (h : H.Wf → pexec prog pc_table_collect ⟨Rt prog Tryz.f35 H k, noEx⟩ (Rt prog Tryz.f35 H k) (upd (upd (upd U 0 a0) 1 a1) 2 a2) H) : CallQ prog f_table_collect [a0, a1, a2] H k := call_in Tryz.func35 comp_table_collect (by kernel_rfl) (by kernel_rfl) (env3 a0 a1 a2) h
noncomputable abbrev F_table_Rows_1 : Func := Tryz.f36
theorem ret_table_Rows_1 (H0 H : Heap) (k : Value → Heap → Prop) (A : Env) : Rt prog Tryz.f36 H0 k A H = Ret H0 k (A 2) H := rt_1 (by kernel_rfl) (by kernel_rfl)
/-- linotype/table.Rows$1 -/
noncomputable def pc_table_Rows_1 : PC :=
  (.seq
   (.ops [⟨some 1, .box T_api_Form (t 0), none, false⟩, ⟨some 2, .mv (.const (.bool false)), none, false⟩])
   (.seq
    (.ops [⟨some 2, .mv (.const (.bool true)), none, false⟩])
    .ret))
theorem comp_table_Rows_1 : Tryz.f36.body.bind (comp prog Tryz.f36.ntmps) = some pc_table_Rows_1 := by kernel_rfl
theorem in_table_Rows_1 {a0 : Value} {H : Heap} {k : Value → Heap → Prop} (h : H.Wf → pexec prog pc_table_Rows_1 ⟨Rt prog Tryz.f36 H k, noEx⟩ (Rt prog Tryz.f36 H k) (upd U 0 a0) H) : CallQ prog f_table_Rows_1 [a0] H k := call_in Tryz.func36 comp_table_Rows_1 (by kernel_rfl) (by kernel_rfl) (env1 a0) h
noncomputable abbrev F_decode_trie : Func := Tryz.f37
theorem ret_decode_trie (H0 H : Heap) (k : Value → Heap → Prop) (A : Env) : Rt prog Tryz.f37 H0 k A H = Ret H0 k (A 0) H := rt_1 (by kernel_rfl) (by kernel_rfl)
/-- linotype/decode.trie -/
noncomputable def pc_decode_trie : PC :=
  (.seq
   (.ops [⟨some 0, .mv (.const (.pointer none)), none, false⟩])
   (.seq
    (.ops [⟨some 1, .call f_table_Rows [], none, false⟩, ⟨some 2, .gen (.makeMap 66 none), none, false⟩, ⟨some 3, .build [.int .i64 0, .slice none 0 0, .map none] [(1, 1, (t 1)), (2, 1, (t 2))], none, false⟩, ⟨some 4, .box T_decode_node (t 3), none, false⟩, ⟨some 0, .mv (t 4), none, false⟩])
    .ret))
theorem comp_decode_trie : Tryz.f37.body.bind (comp prog Tryz.f37.ntmps) = some pc_decode_trie := by kernel_rfl
theorem in_decode_trie {H : Heap} {k : Value → Heap → Prop} (h : H.Wf → pexec prog pc_decode_trie ⟨Rt prog Tryz.f37 H k, noEx⟩ (Rt prog Tryz.f37 H k) U H) : CallQ prog f_decode_trie [] H k := call_in Tryz.func37 comp_decode_trie (by kernel_rfl) (by kernel_rfl) env0 h
noncomputable abbrev F_decode_node_open : Func := Tryz.f38
theorem ret_decode_node_open (H0 H : Heap) (k : Value → Heap → Prop) (A : Env) : Rt prog Tryz.f38 H0 k A H = Ret H0 k (A 2) H := rt_1 (by kernel_rfl) (by kernel_rfl)
/-- (*linotype/decode.node).open -/
noncomputable def pc_decode_node_open : PC :=
  (.seq
   (.ops [⟨some 2, .mv (.const (.bool false)), none, false⟩])
   (.seq
    (.seq
     (.ops [⟨some 4, .mv (t 0), none, false⟩, ⟨some 5, .gen (.nilCheck (t 4)), none, false⟩, ⟨some 6, .fldA 1 (t 5), none, false⟩, ⟨some 7, .ld false 1 (t 6), none, false⟩, ⟨some 8, .lenS (t 7), none, false⟩, ⟨some 9, .bin .eql (t 8) (.const (.int .i64 0)), none, false⟩])
     (.cond (t 9)
      (.seq
       (.ops [⟨some 2, .mv (.const (.bool false)), none, false⟩])
       .ret)
      .skip))
    (.seq
     (.seq
      (.ops [⟨some 10, .mv (t 0), none, false⟩, ⟨some 11, .gen (.nilCheck (t 10)), none, false⟩, ⟨some 12, .fldA 1 (t 11), none, false⟩, ⟨some 13, .ld false 1 (t 12), none, false⟩, ⟨some 14, .idxS 10 (t 13) (.const (.int .i64 0)), none, false⟩, ⟨some 15, .ld true 10 (t 14), none, false⟩, ⟨some 3, .alloc T_api_Form [.int .i64 0, .slice none 0 0, .slice none 0 0, .int .i64 0, .int .i64 0, .int .i64 0, .int .i64 0, .int .i64 0, .bool false, .int .i64 0], none, false⟩, ⟨none, .st 10 (t 3) (t 15), none, false⟩])
      (.seq
       (.ops [⟨some 16, .fldA 8 (t 3), none, false⟩, ⟨some 17, .ld false 1 (t 16), none, false⟩, ⟨some 18, .not (t 17), none, false⟩])
       (.cond (t 18)
        (.seq
         (.ops [⟨some 19, .mv (t 0), none, false⟩, ⟨some 20, .gen (.nilCheck (t 19)), none, false⟩, ⟨some 21, .fldA 0 (t 20), none, false⟩, ⟨some 22, .ld false 1 (t 21), none, true⟩, ⟨some 23, .ld true 10 (t 3), none, false⟩, ⟨some 24, .callF f_decode_lead [(t 23)] [], none, true⟩, ⟨some 25, .lenT (t 24), none, false⟩, ⟨some 26, .bin .leq (t 22) (t 25), none, false⟩, ⟨some 2, .mv (t 26), none, false⟩])
         .ret)
        .skip)))
     (.seq
      (.ops [⟨some 27, .mv (t 0), none, false⟩, ⟨some 28, .gen (.nilCheck (t 27)), none, false⟩, ⟨some 29, .fldA 0 (t 28), none, false⟩, ⟨some 30, .ld false 1 (t 29), none, false⟩, ⟨some 31, .bin .eql (t 30) (.const (.int .i64 0)), none, false⟩, ⟨some 2, .mv (t 31), none, false⟩])
      .ret))))
theorem comp_decode_node_open : Tryz.f38.body.bind (comp prog Tryz.f38.ntmps) = some pc_decode_node_open := by kernel_rfl
theorem in_decode_node_open {a0 : Value} {H : Heap} {k : Value → Heap → Prop} (h : H.Wf → pexec prog pc_decode_node_open ⟨Rt prog Tryz.f38 H k, noEx⟩ (Rt prog Tryz.f38 H k) (upd U 0 a0) H) : CallQ prog f_decode_node_open [a0] H k := call_in Tryz.func38 comp_decode_node_open (by kernel_rfl) (by kernel_rfl) (env1 a0) h
noncomputable abbrev F_decode_node_child : Func := Tryz.f39
theorem ret_decode_node_child (H0 H : Heap) (k : Value → Heap → Prop) (A : Env) : Rt prog Tryz.f39 H0 k A H = Ret H0 k (A 4) H := rt_1 (by kernel_rfl) (by kernel_rfl)
/-- (*linotype/decode.node).child -/
noncomputable def pc_decode_node_child : PC :=
  (.seq
   (.ops [⟨some 4, .mv (.const (.pointer none)), none, false⟩])
   (.seq
    (.seq
     (.ops [⟨some 11, .mv (t 0), none, false⟩, ⟨some 12, .gen (.nilCheck (t 11)), none, false⟩, ⟨some 13, .fldA 2 (t 12), none, false⟩, ⟨some 14, .ld false 1 (t 13), none, false⟩, ⟨some 15, .mv (t 1), none, false⟩, ⟨some 16, .gen (.lookup 66 (t 14) (t 15) true), none, false⟩, ⟨some 10, .mv (t 16), none, false⟩, ⟨some 17, .ext (t 10) 0, none, false⟩, ⟨some 18, .ext (t 10) 1, none, false⟩, ⟨some 5, .mv (t 17), none, false⟩, ⟨some 6, .mv (t 18), none, false⟩])
     (.seq
      (.ops [⟨some 19, .mv (t 6), none, false⟩])
      (.cond (t 19)
       (.seq
        (.ops [⟨some 20, .mv (t 5), none, false⟩, ⟨some 4, .mv (t 20), none, false⟩])
        .ret)
       .skip)))
    (.seq
     (.ops [⟨some 21, .mv (t 0), none, false⟩, ⟨some 22, .gen (.nilCheck (t 21)), none, false⟩, ⟨some 23, .fldA 0 (t 22), none, false⟩, ⟨some 24, .ld false 1 (t 23), none, false⟩, ⟨some 25, .bin .add (t 24) (.const (.int .i64 1)), none, false⟩, ⟨some 26, .gen (.makeMap 66 none), none, false⟩, ⟨some 27, .build [.int .i64 0, .slice none 0 0, .map none] [(0, 1, (t 25)), (2, 1, (t 26))], none, false⟩, ⟨some 28, .box T_decode_node (t 27), none, false⟩, ⟨some 7, .mv (t 28), none, false⟩])
     (.seq
      (.seq
       (.ops [⟨some 29, .mv (t 0), none, false⟩, ⟨some 30, .gen (.nilCheck (t 29)), none, false⟩, ⟨some 31, .fldA 1 (t 30), none, false⟩, ⟨some 32, .ld false 1 (t 31), none, false⟩, ⟨some 33, .lenS (t 32), none, false⟩, ⟨some 34, .mv (.const (.int .i64 0)), none, false⟩])
       (.block 0
        (.loop
         (.seq
          (.ops [⟨some 35, .bin .lss (t 34) (t 33), none, false⟩])
          (.seq
           (.cond (t 35)
            .skip
            (.exit 0))
           (.seq
            (.block 1
             (.seq
              (.ops [⟨some 36, .idxS 10 (t 32) (t 34), none, false⟩, ⟨some 37, .ld true 10 (t 36), none, false⟩, ⟨some 9, .alloc T_api_Form [.int .i64 0, .slice none 0 0, .slice none 0 0, .int .i64 0, .int .i64 0, .int .i64 0, .int .i64 0, .int .i64 0, .bool false, .int .i64 0], none, false⟩, ⟨none, .st 10 (t 9) (t 37), none, false⟩])
              (.seq
               (.ops [⟨some 38, .ld true 10 (t 9), none, false⟩, ⟨some 39, .mv (t 0), none, false⟩, ⟨some 40, .gen (.nilCheck (t 39)), none, false⟩, ⟨some 41, .fldA 0 (t 40), none, false⟩, ⟨some 42, .ld false 1 (t 41), none, false⟩, ⟨some 43, .mv (t 1), none, false⟩, ⟨some 44, .call f_decode_takes [(t 38), (t 42), (t 43)], none, false⟩])
               (.cond (t 44)
                (.ops [⟨some 45, .mv (t 7), none, false⟩, ⟨some 46, .mv (t 7), none, false⟩, ⟨some 47, .gen (.nilCheck (t 46)), none, false⟩, ⟨some 48, .fldA 1 (t 47), none, false⟩, ⟨some 49, .ld false 1 (t 48), none, false⟩, ⟨some 50, .ld true 10 (t 9), none, false⟩, ⟨some 51, .bslice T_api_Form 10 1 [.int .i64 0, .slice none 0 0, .slice none 0 0, .int .i64 0, .int .i64 0, .int .i64 0, .int .i64 0, .int .i64 0, .bool false, .int .i64 0] [(0, (t 50))], none, false⟩, ⟨some 52, .app T_api_Form 10 112 (t 49) (t 51), none, false⟩, ⟨some 53, .gen (.nilCheck (t 45)), none, false⟩, ⟨some 54, .fldA 1 (t 53), none, false⟩, ⟨none, .st 1 (t 54) (t 52), none, false⟩])
                .skip))))
            (.ops [⟨some 55, .bin .add (t 34) (.const (.int .i64 1)), none, false⟩, ⟨some 34, .mv (t 55), none, false⟩])))))))
      (.seq
       (.ops [⟨some 56, .mv (t 0), none, false⟩, ⟨some 57, .gen (.nilCheck (t 56)), none, false⟩, ⟨some 58, .fldA 2 (t 57), none, false⟩, ⟨some 59, .ld false 1 (t 58), none, false⟩, ⟨some 60, .mv (t 1), none, false⟩, ⟨some 61, .mv (t 7), none, false⟩, ⟨none, .gen (.mapUpdate 66 (t 59) (t 60) (t 61)), none, false⟩])
       (.seq
        (.ops [⟨some 62, .mv (t 7), none, false⟩, ⟨some 4, .mv (t 62), none, false⟩])
        .ret))))))
theorem comp_decode_node_child : Tryz.f39.body.bind (comp prog Tryz.f39.ntmps) = some pc_decode_node_child := by kernel_rfl
theorem in_decode_node_child {a0 a1 : Value} {H : Heap} {k : Value → Heap → Prop} (h : H.Wf → pexec prog pc_decode_node_child ⟨Rt prog Tryz.f39 H k, noEx⟩ (Rt prog Tryz.f39 H k) (upd (upd U 0 a0) 1 a1) H) : CallQ prog f_decode_node_child [a0, a1] H k := call_in Tryz.func39 comp_decode_node_child (by kernel_rfl) (by kernel_rfl) (env2 a0 a1) h
noncomputable abbrev F_table_Of_1 : Func := Tryz.f58
theorem ret_table_Of_1 (H0 H : Heap) (k : Value → Heap → Prop) (A : Env) : Rt prog Tryz.f58 H0 k A H = Ret H0 k (A 3) H := rt_1 (by kernel_rfl) (by kernel_rfl)
/-- linotype/table.Of$1 -/
noncomputable def pc_table_Of_1 : PC :=
  (.seq
   (.ops [⟨some 2, .box T_api_Form (t 0), none, false⟩, ⟨some 3, .mv (.const (.bool false)), none, false⟩])
   (.seq
    (.ops [⟨some 4, .fldA 0 (t 2), none, false⟩, ⟨some 5, .ld false 1 (t 4), none, false⟩, ⟨some 6, .ld false 1 (t 1), none, false⟩, ⟨some 7, .bin .eql (t 5) (t 6), none, false⟩, ⟨some 3, .mv (t 7), none, false⟩])
    .ret))
theorem comp_table_Of_1 : Tryz.f58.body.bind (comp prog Tryz.f58.ntmps) = some pc_table_Of_1 := by kernel_rfl
theorem in_table_Of_1 {a0 a1 : Value} {H : Heap} {k : Value → Heap → Prop} (h : H.Wf → pexec prog pc_table_Of_1 ⟨Rt prog Tryz.f58 H k, noEx⟩ (Rt prog Tryz.f58 H k) (upd (upd U 0 a0) 1 a1) H) : CallQ prog f_table_Of_1 [a0, a1] H k := call_in Tryz.func58 comp_table_Of_1 (by kernel_rfl) (by kernel_rfl) (env2 a0 a1) h
noncomputable abbrev F_table_lists : Func := Tryz.f61
theorem ret_table_lists (H0 H : Heap) (k : Value → Heap → Prop) (A : Env) : Rt prog Tryz.f61 H0 k A H = Ret H0 k (A 0) H := rt_1 (by kernel_rfl) (by kernel_rfl)
/-- linotype/table.lists -/
noncomputable def pc_table_lists : PC :=
  (.seq
   (.ops [⟨some 0, .mv (.const (.slice none 0 0)), none, false⟩])
   (.seq
    (.ops [⟨some 1, .build [.int .i64 0, .int .i64 0, .nilFunc] [(0, 1, (.const (.int .i64 1))), (1, 1, (.const (.int .i64 16))), (2, 1, (.func f_alu_Rows))], none, false⟩, ⟨some 2, .build [.int .i64 0, .int .i64 0, .nilFunc] [(0, 1, (.const (.int .i64 16))), (1, 1, (.const (.int .i64 47))), (2, 1, (.func f_unary_Rows))], none, false⟩, ⟨some 3, .build [.int .i64 0, .int .i64 0, .nilFunc] [(0, 1, (.const (.int .i64 48))), (1, 1, (.const (.int .i64 115))), (2, 1, (.func f_flow_Rows))], none, false⟩, ⟨some 4, .build [.int .i64 0, .int .i64 0, .nilFunc] [(0, 1, (.const (.int .i64 116))), (1, 1, (.const (.int .i64 135))), (2, 1, (.func f_bits_Rows))], none, false⟩, ⟨some 5, .build [.int .i64 0, .int .i64 0, .nilFunc] [(0, 1, (.const (.int .i64 136))), (1, 1, (.const (.int .i64 262))), (2, 1, (.func f_sse_Rows))], none, false⟩, ⟨some 6, .build [.int .i64 0, .int .i64 0, .nilFunc] [(0, 1, (.const (.int .i64 263))), (1, 1, (.const (.int .i64 322))), (2, 1, (.func f_avx_Rows))], none, false⟩, ⟨some 7, .bslice T_table_list 3 6 [.int .i64 0, .int .i64 0, .nilFunc, .int .i64 0, .int .i64 0, .nilFunc, .int .i64 0, .int .i64 0, .nilFunc, .int .i64 0, .int .i64 0, .nilFunc, .int .i64 0, .int .i64 0, .nilFunc, .int .i64 0, .int .i64 0, .nilFunc] [(0, (t 1)), (1, (t 2)), (2, (t 3)), (3, (t 4)), (4, (t 5)), (5, (t 6))], none, false⟩, ⟨some 0, .mv (t 7), none, false⟩])
    .ret))
theorem comp_table_lists : Tryz.f61.body.bind (comp prog Tryz.f61.ntmps) = some pc_table_lists := by kernel_rfl
theorem in_table_lists {H : Heap} {k : Value → Heap → Prop} (h : H.Wf → pexec prog pc_table_lists ⟨Rt prog Tryz.f61 H k, noEx⟩ (Rt prog Tryz.f61 H k) U H) : CallQ prog f_table_lists [] H k := call_in Tryz.func61 comp_table_lists (by kernel_rfl) (by kernel_rfl) env0 h
noncomputable abbrev F_decode_lead : Func := Tryz.f62
theorem ret_decode_lead (H0 H : Heap) (k : Value → Heap → Prop) (A : Env) : Rt prog Tryz.f62 H0 k A H = Ret H0 k (A 2) H := rt_1 (by kernel_rfl) (by kernel_rfl)
/-- linotype/decode.lead -/
noncomputable def pc_decode_lead : PC :=
  (.seq
   (.ops [⟨some 1, .box T_api_Form (t 0), none, false⟩, ⟨some 2, .mv (.const (.string (mkS []))), none, false⟩])
   (.seq
    (.ops [⟨some 3, .mv (.const (.string (mkS []))), none, false⟩])
    (.seq
     (.seq
      (.ops [⟨some 4, .fldA 3 (t 1), none, false⟩, ⟨some 5, .ld false 1 (t 4), none, false⟩, ⟨some 6, .bin .and (t 5) (.const (.int .i64 1)), none, false⟩, ⟨some 7, .bin .neq (t 6) (.const (.int .i64 0)), none, false⟩])
      (.cond (t 7)
       (.ops [⟨some 8, .mv (t 3), none, false⟩, ⟨some 9, .bin .add (t 8) (.const (.string (mkS [102]))), none, false⟩, ⟨some 3, .mv (t 9), none, false⟩])
       .skip))
     (.seq
      (.seq
       (.ops [⟨some 10, .fldA 3 (t 1), none, false⟩, ⟨some 11, .ld false 1 (t 10), none, false⟩, ⟨some 12, .bin .and (t 11) (.const (.int .i64 2)), none, false⟩, ⟨some 13, .bin .neq (t 12) (.const (.int .i64 0)), none, false⟩])
       (.cond (t 13)
        (.ops [⟨some 14, .mv (t 3), none, false⟩, ⟨some 15, .bin .add (t 14) (.const (.string (mkS [242]))), none, false⟩, ⟨some 3, .mv (t 15), none, false⟩])
        .skip))
      (.seq
       (.seq
        (.ops [⟨some 16, .fldA 3 (t 1), none, false⟩, ⟨some 17, .ld false 1 (t 16), none, false⟩, ⟨some 18, .bin .and (t 17) (.const (.int .i64 4)), none, false⟩, ⟨some 19, .bin .neq (t 18) (.const (.int .i64 0)), none, false⟩])
        (.cond (t 19)
         (.ops [⟨some 20, .mv (t 3), none, false⟩, ⟨some 21, .bin .add (t 20) (.const (.string (mkS [243]))), none, false⟩, ⟨some 3, .mv (t 21), none, false⟩])
         .skip))
       (.seq
        (.ops [⟨some 22, .mv (t 3), none, false⟩, ⟨some 23, .fldA 4 (t 1), none, false⟩, ⟨some 24, .ld false 1 (t 23), none, false⟩, ⟨some 25, .call f_decode_escape [(t 24)], none, false⟩, ⟨some 26, .bin .add (t 22) (t 25), none, false⟩, ⟨some 2, .mv (t 26), none, false⟩])
        .ret))))))
theorem comp_decode_lead : Tryz.f62.body.bind (comp prog Tryz.f62.ntmps) = some pc_decode_lead := by kernel_rfl
theorem in_decode_lead {a0 : Value} {H : Heap} {k : Value → Heap → Prop} (h : H.Wf → pexec prog pc_decode_lead ⟨Rt prog Tryz.f62 H k, noEx⟩ (Rt prog Tryz.f62 H k) (upd U 0 a0) H) : CallQ prog f_decode_lead [a0] H k := call_in Tryz.func62 comp_decode_lead (by kernel_rfl) (by kernel_rfl) (env1 a0) h
noncomputable abbrev F_decode_takes : Func := Tryz.f63
theorem ret_decode_takes (H0 H : Heap) (k : Value → Heap → Prop) (A : Env) : Rt prog Tryz.f63 H0 k A H = Ret H0 k (A 6) H := rt_1 (by kernel_rfl) (by kernel_rfl)
/-- linotype/decode.takes -/
noncomputable def pc_decode_takes : PC :=
  (.seq
   (.ops [⟨some 3, .box T_api_Form (t 0), none, false⟩, ⟨some 6, .mv (.const (.bool false)), none, false⟩])
   (.seq
    (.seq
     (.ops [⟨some 8, .fldA 8 (t 3), none, false⟩, ⟨some 9, .ld false 1 (t 8), none, false⟩])
     (.cond (t 9)
      (.seq
       (.ops [⟨some 10, .mv (t 1), none, false⟩, ⟨some 11, .bin .eql (t 10) (.const (.int .i64 0)), none, false⟩, ⟨some 12, .mv (t 11), none, false⟩, ⟨some 13, .mv (t 2), some (12, true), false⟩, ⟨some 14, .bin .eql (t 13) (.const (.int .u8 196)), some (12, true), false⟩, ⟨some 15, .mv (t 14), some (12, true), false⟩, ⟨some 16, .mv (t 2), some (15, false), false⟩, ⟨some 17, .bin .eql (t 16) (.const (.int .u8 197)), some (15, false), false⟩, ⟨some 18, .mv (t 17), some (15, false), false⟩, ⟨some 19, .fldA 4 (t 3), some (18, true), false⟩, ⟨some 20, .ld false 1 (t 19), some (18, true), false⟩, ⟨some 21, .bin .eql (t 20) (.const (.int .i64 1)), some (18, true), false⟩, ⟨some 22, .pick (t 18) (t 21) (.const (.bool false)), some (15, false), false⟩, ⟨some 23, .mv (t 22), some (15, false), false⟩, ⟨some 24, .fldA 7 (t 3), some (23, true), false⟩, ⟨some 25, .ld false 1 (t 24), some (23, true), false⟩, ⟨some 26, .bin .neq (t 25) (.const (.int .i64 1)), some (23, true), false⟩, ⟨some 27, .pick (t 23) (t 26) (.const (.bool false)), some (15, false), false⟩, ⟨some 28, .pick (t 15) (.const (.bool true)) (t 27), some (12, true), false⟩, ⟨some 29, .pick (t 12) (t 28) (.const (.bool false)), none, false⟩, ⟨some 6, .mv (t 29), none, false⟩])
       .ret)
      .skip))
    (.seq
     (.ops [⟨some 30, .ld true 10 (t 3), none, false⟩, ⟨some 31, .call f_decode_lead [(t 30)], none, false⟩, ⟨some 7, .mv (t 31), none, false⟩])
     (.seq
      (.block 0
       (.seq
        (.ops [⟨some 33, .mv (t 1), none, false⟩, ⟨some 34, .mv (t 7), none, false⟩, ⟨some 35, .lenT (t 34), none, false⟩, ⟨some 36, .bin .lss (t 33) (t 35), none, false⟩, ⟨some 32, .mv (t 36), none, false⟩])
        (.cond (t 32)
         (.seq
          (.ops [⟨some 37, .mv (t 2), none, false⟩, ⟨some 38, .mv (t 7), none, false⟩, ⟨some 39, .mv (t 1), none, false⟩, ⟨some 40, .chr (t 38) (t 39), none, false⟩, ⟨some 41, .bin .eql (t 37) (t 40), none, false⟩, ⟨some 6, .mv (t 41), none, false⟩])
          .ret)
         (.seq
          (.ops [⟨some 43, .mv (t 1), none, false⟩, ⟨some 44, .mv (t 7), none, false⟩, ⟨some 45, .lenT (t 44), none, false⟩, ⟨some 46, .bin .gtr (t 43) (t 45), none, false⟩, ⟨some 42, .mv (t 46), none, false⟩])
          (.cond (t 42)
           (.seq
            (.ops [⟨some 6, .mv (.const (.bool false)), none, false⟩])
            .ret)
           (.seq
            (.ops [⟨some 48, .ld true 10 (t 3), none, false⟩, ⟨some 49, .call f_shape_Slot [(t 48), (.const (.int .i64 4))], none, false⟩, ⟨some 50, .bin .geq (t 49) (.const (.int .i64 0)), none, false⟩, ⟨some 47, .mv (t 50), none, false⟩])
            (.cond (t 47)
             (.seq
              (.ops [⟨some 51, .mv (t 2), none, false⟩, ⟨some 52, .bin .andNot (t 51) (.const (.int .u8 7)), none, false⟩, ⟨some 53, .toInt .i64 (t 52), none, false⟩, ⟨some 54, .fldA 5 (t 3), none, false⟩, ⟨some 55, .ld false 1 (t 54), none, false⟩, ⟨some 56, .bin .eql (t 53) (t 55), none, false⟩, ⟨some 6, .mv (t 56), none, false⟩])
              .ret)
             .skip)))))))
      (.seq
       (.ops [⟨some 57, .mv (t 2), none, false⟩, ⟨some 58, .toInt .i64 (t 57), none, false⟩, ⟨some 59, .fldA 5 (t 3), none, false⟩, ⟨some 60, .ld false 1 (t 59), none, false⟩, ⟨some 61, .bin .eql (t 58) (t 60), none, false⟩, ⟨some 6, .mv (t 61), none, false⟩])
       .ret)))))
theorem comp_decode_takes : Tryz.f63.body.bind (comp prog Tryz.f63.ntmps) = some pc_decode_takes := by kernel_rfl
theorem in_decode_takes {a0 a1 a2 : Value} {H : Heap} {k : Value → Heap → Prop} (h : H.Wf → pexec prog pc_decode_takes ⟨Rt prog Tryz.f63 H k, noEx⟩ (Rt prog Tryz.f63 H k) (upd (upd (upd U 0 a0) 1 a1) 2 a2) H) : CallQ prog f_decode_takes [a0, a1, a2] H k := call_in Tryz.func63 comp_decode_takes (by kernel_rfl) (by kernel_rfl) (env3 a0 a1 a2) h
noncomputable abbrev F_shape_Slot : Func := Tryz.f66
theorem ret_shape_Slot (H0 H : Heap) (k : Value → Heap → Prop) (A : Env) : Rt prog Tryz.f66 H0 k A H = Ret H0 k (A 4) H := rt_1 (by kernel_rfl) (by kernel_rfl)
/-- linotype/shape.Slot -/
noncomputable def pc_shape_Slot : PC :=
  (.seq
   (.ops [⟨some 2, .box T_api_Form (t 0), none, false⟩, ⟨some 4, .mv (.const (.int .i64 0)), none, false⟩])
   (.seq
    (.ops [⟨some 5, .fldA 2 (t 2), none, false⟩, ⟨some 6, .ld false 1 (t 5), none, false⟩, ⟨some 7, .mv (t 1), none, false⟩, ⟨some 8, .call f_slices_Index_int_int [(t 6), (t 7)], none, false⟩, ⟨some 4, .mv (t 8), none, false⟩])
    .ret))
theorem comp_shape_Slot : Tryz.f66.body.bind (comp prog Tryz.f66.ntmps) = some pc_shape_Slot := by kernel_rfl
theorem in_shape_Slot {a0 a1 : Value} {H : Heap} {k : Value → Heap → Prop} (h : H.Wf → pexec prog pc_shape_Slot ⟨Rt prog Tryz.f66 H k, noEx⟩ (Rt prog Tryz.f66 H k) (upd (upd U 0 a0) 1 a1) H) : CallQ prog f_shape_Slot [a0, a1] H k := call_in Tryz.func66 comp_shape_Slot (by kernel_rfl) (by kernel_rfl) (env2 a0 a1) h
noncomputable abbrev F_decode_escape : Func := Tryz.f139
theorem ret_decode_escape (H0 H : Heap) (k : Value → Heap → Prop) (A : Env) : Rt prog Tryz.f139 H0 k A H = Ret H0 k (A 2) H := rt_1 (by kernel_rfl) (by kernel_rfl)
/-- linotype/decode.escape -/
noncomputable def pc_decode_escape : PC :=
  (.seq
   (.ops [⟨some 2, .mv (.const (.string (mkS []))), none, false⟩])
   (.seq
    (.seq
     (.ops [⟨some 3, .mv (t 0), none, false⟩])
     (.block 0
      (.seq
       (.ops [⟨some 5, .bin .eql (t 3) (.const (.int .i64 1)), none, false⟩, ⟨some 4, .mv (t 5), none, false⟩])
       (.cond (t 4)
        (.seq
         (.ops [⟨some 2, .mv (.const (.string (mkS [15]))), none, false⟩])
         .ret)
        (.seq
         (.ops [⟨some 7, .bin .eql (t 3) (.const (.int .i64 2)), none, false⟩, ⟨some 6, .mv (t 7), none, false⟩])
         (.cond (t 6)
          (.seq
           (.ops [⟨some 2, .mv (.const (.string (mkS [15, 56]))), none, false⟩])
           .ret)
          (.seq
           (.ops [⟨some 9, .bin .eql (t 3) (.const (.int .i64 3)), none, false⟩, ⟨some 8, .mv (t 9), none, false⟩])
           (.cond (t 8)
            (.seq
             (.ops [⟨some 2, .mv (.const (.string (mkS [15, 58]))), none, false⟩])
             .ret)
            .skip))))))))
    (.seq
     (.ops [⟨some 2, .mv (.const (.string (mkS []))), none, false⟩])
     .ret)))
theorem comp_decode_escape : Tryz.f139.body.bind (comp prog Tryz.f139.ntmps) = some pc_decode_escape := by kernel_rfl
theorem in_decode_escape {a0 : Value} {H : Heap} {k : Value → Heap → Prop} (h : H.Wf → pexec prog pc_decode_escape ⟨Rt prog Tryz.f139 H k, noEx⟩ (Rt prog Tryz.f139 H k) (upd U 0 a0) H) : CallQ prog f_decode_escape [a0] H k := call_in Tryz.func139 comp_decode_escape (by kernel_rfl) (by kernel_rfl) (env1 a0) h
noncomputable abbrev F_slices_Index_int_int : Func := Tryz.f143
theorem ret_slices_Index_int_int (H0 H : Heap) (k : Value → Heap → Prop) (A : Env) : Rt prog Tryz.f143 H0 k A H = Ret H0 k (A 4) H := rt_1 (by kernel_rfl) (by kernel_rfl)
/-- slices.Index[[]int,int] -/
noncomputable def pc_slices_Index_int_int : PC :=
  (.seq
   (.ops [⟨some 4, .mv (.const (.int .i64 0)), none, false⟩])
   (.seq
    (.seq
     (.ops [⟨some 6, .mv (t 0), none, false⟩, ⟨some 7, .lenS (t 6), none, false⟩, ⟨some 8, .mv (.const (.int .i64 0)), none, false⟩])
     (.block 0
      (.loop
       (.seq
        (.ops [⟨some 9, .bin .lss (t 8) (t 7), none, false⟩])
        (.seq
         (.cond (t 9)
          .skip
          (.exit 0))
         (.seq
          (.block 1
           (.seq
            (.ops [⟨some 10, .mv (t 8), none, false⟩, ⟨some 5, .mv (t 10), none, false⟩])
            (.seq
             (.ops [⟨some 11, .mv (t 1), none, false⟩, ⟨some 12, .mv (t 0), none, false⟩, ⟨some 13, .mv (t 5), none, false⟩, ⟨some 14, .idxS 1 (t 12) (t 13), none, false⟩, ⟨some 15, .ld false 1 (t 14), none, false⟩, ⟨some 16, .bin .eql (t 11) (t 15), none, false⟩])
             (.cond (t 16)
              (.seq
               (.ops [⟨some 17, .mv (t 5), none, false⟩, ⟨some 4, .mv (t 17), none, false⟩])
               .ret)
              .skip))))
          (.ops [⟨some 18, .bin .add (t 8) (.const (.int .i64 1)), none, false⟩, ⟨some 8, .mv (t 18), none, false⟩])))))))
    (.seq
     (.ops [⟨some 4, .mv (.const (.int .i64 (-1))), none, false⟩])
     .ret)))
theorem comp_slices_Index_int_int : Tryz.f143.body.bind (comp prog Tryz.f143.ntmps) = some pc_slices_Index_int_int := by kernel_rfl
theorem in_slices_Index_int_int {a0 a1 : Value} {H : Heap} {k : Value → Heap → Prop} (h : H.Wf → pexec prog pc_slices_Index_int_int ⟨Rt prog Tryz.f143 H k, noEx⟩ (Rt prog Tryz.f143 H k) (upd (upd U 0 a0) 1 a1) H) : CallQ prog f_slices_Index_int_int [a0, a1] H k := call_in Tryz.func143 comp_slices_Index_int_int (by kernel_rfl) (by kernel_rfl) (env2 a0 a1) h
end Go.Proofs.YtfofbicfabokbaaGreatDoor.code
