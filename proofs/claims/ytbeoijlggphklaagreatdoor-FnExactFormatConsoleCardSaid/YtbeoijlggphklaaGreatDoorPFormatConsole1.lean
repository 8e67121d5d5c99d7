/- Parts of the proof, merged: Nums, CodeWFormat, CodeWIsCon, CodeRegister, CodeDiff, CodeArms, CodeBanner, CodeLib, CodeBase, Base, Lib, Banner, Arms, Diff, CodeGrant, Grant, Register. -/
import Derived.Test.YtbeoijlggphklaaGreatDoorProg
import Derived.Test.YtbeoijlggphklaaGreatDoorAbs3
import Derived.KernelRfl
import Derived.Lib.ItoaNum
import Derived.Lib.LaidTab
import Derived.Test.YtbeoijlggphklaaGreatDoorAbs4
/- The numbers of the functions: written by a program of this claim. -/
namespace Go.Proofs.YtbeoijlggphklaaGreatDoor
def n_main_main : Nat := 0
def n_gosem_cut : Nat := 1
def n_gosem_cut_init : Nat := 2
def n_w_FnExactEntryLines : Nat := 3
def n_w_FnExactFormatConsole : Nat := 4
def n_w_FnExactPageOf : Nat := 5
def n_w_FnExactCountLines : Nat := 6
def n_w_FnExactRollPages : Nat := 7
def n_w_FnRolls : Nat := 8
def n_w_FnExactRollText : Nat := 9
def n_w_FnExactNameLines : Nat := 10
def n_w_FnRollTexts : Nat := 11
def n_w_szGrant : Nat := 12
def n_s_EntryLines : Nat := 13
def n_w_toGrant : Nat := 14
def n_i_EntryLines : Nat := 15
def n_w_eqStringS : Nat := 16
def n_w_markStringS : Nat := 17
def n_w_heldStringS : Nat := 18
def n_w_szConsole : Nat := 19
def n_s_FormatConsole : Nat := 20
def n_w_toConsole : Nat := 21
def n_i_FormatConsole : Nat := 22
def n_w_eqConsole : Nat := 23
def n_w_szRegister : Nat := 24
def n_s_PageOf : Nat := 25
def n_w_toRegister : Nat := 26
def n_w_toRoll : Nat := 27
def n_i_PageOf : Nat := 28
def n_w_eqRegister : Nat := 29
def n_s_CountLines : Nat := 30
def n_i_CountLines : Nat := 31
def n_s_RollPages : Nat := 32
def n_i_RollPages : Nat := 33
def n_w_eqStringSS : Nat := 34
def n_w_markRegister : Nat := 35
def n_w_markStringSS : Nat := 36
def n_w_heldStringSS : Nat := 37
def n_w_rBig : Nat := 38
def n_s_DrawRollPages : Nat := 39
def n_w_rTexts : Nat := 40
def n_w_rWithin : Nat := 41
def n_s_DrawRollOrder : Nat := 42
def n_i_RollOrder : Nat := 43
def n_s_RollOrder : Nat := 44
def n_w_rInts : Nat := 45
def n_s_RollText : Nat := 46
def n_i_RollText : Nat := 47
def n_s_NameLines : Nat := 48
def n_i_NameLines : Nat := 49
def n_s_DrawRollText : Nat := 50
def n_s_DrawEntryLines : Nat := 51
def n_s_l16Good : Nat := 52
def n_s_l1In : Nat := 53
def n_s_l25Lines : Nat := 54
def n_w_toArms : Nat := 55
def n_i_IsValidRegister : Nat := 56
def n_i_inside : Nat := 57
def n_i_entry : Nat := 58
def n_w_markText : Nat := 59
def n_w_szLog : Nat := 60
def n_s_l28Good : Nat := 61
def n_s_l16Text : Nat := 62
def n_s_l1Num : Nat := 63
def n_w_toLog : Nat := 64
def n_i_IsValidConsole : Nat := 65
def n_i_FormatRegister : Nat := 66
def n_strconv_Itoa : Nat := 67
def n_w_eqLog : Nat := 68
def n_w_szGrantS : Nat := 69
def n_s_l25Asked : Nat := 70
def n_w_toGrantS : Nat := 71
def n_i_paged : Nat := 72
def n_i_Register_ordered : Nat := 73
def n_w_eqGrantS : Nat := 74
def n_w_markGrantS : Nat := 75
def n_s_l1Cur_anyRegister : Nat := 76
def n_s_l1Cur_roll : Nat := 77
def n_s_l1Cur_among : Nat := 78
def n_s_l1Cur_pick : Nat := 79
def n_s_l25By : Nat := 80
def n_s_l25Order : Nat := 81
def n_strings_Repeat : Nat := 82
def n_s_l17Put : Nat := 83
def n_s_l1Put : Nat := 84
def n_slices_Sort_string_string : Nat := 85
def n_i_firsts : Nat := 86
def n_strings_Join : Nat := 87
def n_s_l1Cur_anyArms : Nat := 88
def n_s_l1Cur_one : Nat := 89
def n_s_l16Grant : Nat := 90
def n_s_l15Conflict : Nat := 91
def n_s_l1Split : Nat := 92
def n_s_l6Text : Nat := 93
def n_w_toField : Nat := 94
def n_w_toGroup : Nat := 95
def n_i_isName : Nat := 96
def n_i_IsValidArms : Nat := 97
def n_slices_ContainsFunc_i_Grant_i_Grant : Nat := 98
def n_i_IsValidRegister_1 : Nat := 99
def n_i_conflict : Nat := 100
def n_i_wrapped : Nat := 101
def n_i_Arms_text : Nat := 102
def n_s_l27Log : Nat := 103
def n_i_IsValidLog : Nat := 104
def n_internal_strconv_Itoa : Nat := 105
def n_s_l25Good : Nat := 106
def n_s_l25Pages : Nat := 107
def n_i_IsValidRoll : Nat := 108
def n_slices_SortStableFunc_i_Grant_i_Grant : Nat := 109
def n_i_Register_ordered_1 : Nat := 110
def n_strings_Compare : Nat := 111
def n_i_Register_ordered_2 : Nat := 112
def n_w_eqGrant : Nat := 113
def n_s_l1Cur_register : Nat := 114
def n_s_l1Cur_of : Nat := 115
def n_s_l1Cur_like : Nat := 116
def n_s_l1Cur_next : Nat := 117
def n_s_l25Before : Nat := 118
def n_math_bits_Mul : Nat := 119
def n_strings_HasPrefix : Nat := 120
def n_strings_Builder_Grow : Nat := 121
def n_strings_Builder_WriteString : Nat := 122
def n_strings_Builder_Len : Nat := 123
def n_strings_Builder_String : Nat := 124
def n_slices_pdqsortOrdered_string : Nat := 125
def n_math_bits_Len : Nat := 126
def n_slices_Contains_int_int : Nat := 127
def n_s_l1Cur_arms : Nat := 128
def n_s_l1Cur_anyField : Nat := 129
def n_s_l1Cur_anyGroup : Nat := 130
def n_s_l16Name : Nat := 131
def n_s_l5Good : Nat := 132
def n_s_l15Count : Nat := 133
def n_s_l3Text : Nat := 134
def n_s_l6Ordinary : Nat := 135
def n_s_l2Word : Nat := 136
def n_s_l4None : Nat := 137
def n_s_l4Text : Nat := 138
def n_s_l6Join : Nat := 139
def n_i_IsValidField : Nat := 140
def n_i_isGroup : Nat := 141
def n_i_isOrdinary : Nat := 142
def n_slices_IndexFunc_i_Grant_i_Grant : Nat := 143
def n_i_differences : Nat := 144
def n_strings_Split : Nat := 145
def n_i_Arms_pieces : Nat := 146
def n_i_pieces_joined : Nat := 147
def n_s_l27Open : Nat := 148
def n_i_readRecords : Nat := 149
def n_internal_strconv_FormatInt : Nat := 150
def n_slices_stableCmpFunc_i_Grant : Nat := 151
def n_internal_bytealg_CompareString : Nat := 152
def n_w_eqArms : Nat := 153
def n_s_l16Conflicts : Nat := 154
def n_s_l1Cur_field : Nat := 155
def n_s_l1Cur_tincture : Nat := 156
def n_s_l1Cur_group : Nat := 157
def n_math_bits_Mul32 : Nat := 158
def n_math_bits_Mul64 : Nat := 159
def n_internal_stringslite_HasPrefix : Nat := 160
def n_strings_Builder_copyCheck : Nat := 161
def n_strings_Builder_grow : Nat := 162
def n_slices_insertionSortOrdered_string : Nat := 163
def n_slices_heapSortOrdered_string : Nat := 164
def n_slices_breakPatternsOrdered_string : Nat := 165
def n_slices_choosePivotOrdered_string : Nat := 166
def n_slices_reverseRangeOrdered_string : Nat := 167
def n_slices_partialInsertionSortOrdered_string : Nat := 168
def n_cmp_Less_string : Nat := 169
def n_slices_partitionEqualOrdered_string : Nat := 170
def n_slices_partitionOrdered_string : Nat := 171
def n_math_bits_Len32 : Nat := 172
def n_math_bits_Len64 : Nat := 173
def n_slices_Index_int_int : Nat := 174
def n_s_l3Good : Nat := 175
def n_s_l4Group : Nat := 176
def n_s_l3Line : Nat := 177
def n_s_l2Good : Nat := 178
def n_s_l3Differences : Nat := 179
def n_s_l4Differences : Nat := 180
def n_s_l3LineWord : Nat := 181
def n_s_l4Bare : Nat := 182
def n_i_isLine : Nat := 183
def n_i_IsTincture : Nat := 184
def n_i_IsValidGroup : Nat := 185
def n_i_FieldDifferences : Nat := 186
def n_i_groupDifferences : Nat := 187
def n_i_number : Nat := 188
def n_strings_genSplit : Nat := 189
def n_i_Field_text : Nat := 190
def n_i_ordinaryStart : Nat := 191
def n_i_tincture : Nat := 192
def n_i_Group_text : Nat := 193
def n_s_l27Read : Nat := 194
def n_i_readRecord : Nat := 195
def n_internal_strconv_small : Nat := 196
def n_internal_strconv_numDigits : Nat := 197
def n_internal_strconv_formatBase10 : Nat := 198
def n_internal_strconv_formatBits : Nat := 199
def n_slices_insertionSortCmpFunc_i_Grant : Nat := 200
def n_slices_symMergeCmpFunc_i_Grant : Nat := 201
def n_internal_bytealg_abigen_runtime_cmpstring : Nat := 202
def n_w_eqField : Nat := 203
def n_w_eqGroup : Nat := 204
def n_s_l4Beast : Nat := 205
def n_internal_abi_NoEscape : Nat := 206
def n_internal_bytealg_MakeNoZero : Nat := 207
def n_slices_siftDownOrdered_string : Nat := 208
def n_slices_nextPowerOfTwo : Nat := 209
def n_slices_xorshift_Next : Nat := 210
def n_slices_medianAdjacentOrdered_string : Nat := 211
def n_slices_medianOrdered_string : Nat := 212
def n_cmp_isNaN_string : Nat := 213
def n_s_l4Kind : Nat := 214
def n_s_l1Same : Nat := 215
def n_s_l3Tinctures : Nat := 216
def n_s_l4Word : Nat := 217
def n_s_l4Attitudes : Nat := 218
def n_i_isKind : Nat := 219
def n_i_attitudes : Nat := 220
def n_slices_Equal_int_int : Nat := 221
def n_i_Field_tinctures : Nat := 222
def n_strings_explode : Nat := 223
def n_strings_Count : Nat := 224
def n_strings_Index : Nat := 225
def n_i_withLine : Nat := 226
def n_i_divisionWords : Nat := 227
def n_i_ordinaryWords : Nat := 228
def n_i_tinctureWords : Nat := 229
def n_i_countWord : Nat := 230
def n_i_kindWord : Nat := 231
def n_s_l27Good : Nat := 232
def n_s_l27Line : Nat := 233
def n_strings_Cut : Nat := 234
def n_i_IsValidRecord : Nat := 235
def n_i_encodeRecord : Nat := 236
def n_internal_strconv_log10Pow2 : Nat := 237
def n_internal_strconv_bool2_int : Nat := 238
def n_internal_strconv_isPowerOfTwo : Nat := 239
def n_math_bits_TrailingZeros : Nat := 240
def n_slices_rotateCmpFunc_i_Grant : Nat := 241
def n_slices_order2Ordered_string : Nat := 242
def n_unicode_utf8_RuneCountInString : Nat := 243
def n_unicode_utf8_DecodeRuneInString : Nat := 244
def n_internal_bytealg_CountString : Nat := 245
def n_internal_stringslite_Index : Nat := 246
def n_i_lineWords : Nat := 247
def n_i_kindWords : Nat := 248
def n_s_l27Plain : Nat := 249
def n_s_l1Stands : Nat := 250
def n_s_l1Seal : Nat := 251
def n_internal_stringslite_Cut : Nat := 252
def n_i_isPlain : Nat := 253
def n_strings_Contains : Nat := 254
def n_i_AppendChecksum : Nat := 255
def n_math_bits_TrailingZeros32 : Nat := 256
def n_math_bits_TrailingZeros64 : Nat := 257
def n_slices_swapRangeCmpFunc_i_Grant : Nat := 258
def n_unicode_utf8_decodeRuneInStringSlow : Nat := 259
def n_internal_stringslite_IndexByte : Nat := 260
def n_internal_bytealg_IndexString : Nat := 261
def n_internal_bytealg_Cutover : Nat := 262
def n_internal_bytealg_IndexRabinKarp_string : Nat := 263
def n_s_l1Sum : Nat := 264
def n_i_checksum : Nat := 265
def n_internal_bytealg_IndexByteString : Nat := 266
def n_internal_bytealg_hashStr_string : Nat := 267
def n_runtime_boundsError_Error : Nat := 268
def n_runtime_boundsError_RuntimeError : Nat := 269
def n_runtime_errorString_Error : Nat := 270
def n_runtime_errorString_RuntimeError : Nat := 271
def n_runtime_plainError_Error : Nat := 272
def n_runtime_plainError_RuntimeError : Nat := 273
def n_runtime_errorAddressString_Error : Nat := 274
def n_runtime_errorAddressString_RuntimeError : Nat := 275
def n_runtime_TypeAssertionError_Error : Nat := 276
def n_runtime_TypeAssertionError_RuntimeError : Nat := 277
def n_runtime_PanicNilError_Error : Nat := 278
def n_runtime_PanicNilError_RuntimeError : Nat := 279
def n_internal_abi_Type_Align : Nat := 280
def n_internal_runtime_maps_unhashableTypeError_Error : Nat := 281
def n_internal_runtime_maps_unhashableTypeError_RuntimeError : Nat := 282
def n_i_Arms_charges : Nat := 283
def n_i_Register_grantIn : Nat := 284
def n_s_l1Cur_any1 : Nat := 285
def n_strings_Builder_Reset : Nat := 286
def n_internal_abi_Kind_String : Nat := 287
def n_var_s_door_gosem_cut_vars_holds_initialisers_alone_see_the_manifest_s_row_cutvarsword_look_11_test_files_too : Nat := 288
def n_var_s_door_internal_strconv_uint64pow10_is_laid_by_its_own_initialiser_plain_data_look_11 : Nat := 289
def n_var_s_door_math_bits_deBruijn32tab_is_laid_by_its_own_initialiser_plain_data_look_11 : Nat := 290
def n_var_s_door_math_bits_deBruijn64tab_is_laid_by_its_own_initialiser_plain_data_look_11 : Nat := 291
def n_var_s_door_the_look_of_gosem_cut_vars_went_over_the_folder_that_the_caller_named_as_the_repository_s_root_look_11 : Nat := 292
def n_var_s_door_unicode_utf8_acceptRanges_is_laid_by_its_own_initialiser_plain_data_look_11 : Nat := 293
def n_var_s_door_unicode_utf8_first_is_laid_by_its_text_alone_pinned_1 : Nat := 294
def n_gosem_cut_vars : Nat := 295
theorem gPow : Tryz.prog.globalNamed "internal/strconv.uint64pow10" = some 1 := by kernel_rfl
/-- Of the package variables: the table of strconv. -/
instance : Abs.GInv where
  holds w D := Lib.TabIs Tryz.prog w "internal/strconv.uint64pow10" .u64 Lib.pow10Tab ∧ D 1
  mono := by
    rintro w w' D D' ⟨h1, h2⟩ hD hh
    refine ⟨?_, hD _ h2⟩
    unfold Lib.TabIs World.var? at h1 ⊢
    rw [gPow] at h1 ⊢
    simp only [Option.bind_some] at h1 ⊢
    rw [hh _ h2]; exact h1
end Go.Proofs.YtbeoijlggphklaaGreatDoor

/- The compact code of the functions, and that it is theirs: written by a program of this claim. -/
namespace Go.Proofs.YtbeoijlggphklaaGreatDoor
open Go.Abs
set_option maxRecDepth 100000
def r_i_FormatRegister_0 : List CO := [⟨none, (some 1), (.box 1 (.t 0))⟩, ⟨none, (some 2), (.mv (.k (.v (.string (bs [])))))⟩, ⟨none, (some 3), (.mv (.k (.v (.bool false))))⟩]
def r_i_FormatRegister_1 : List CO := [⟨none, (some 7), (.ld true 1 (.t 1))⟩, ⟨none, (some 8), (.call n_i_IsValidRegister [(.t 7)])⟩, ⟨none, (some 9), (.un .not (.t 8))⟩]
def r_i_FormatRegister_2 : List CO := [⟨none, (some 2), (.mv (.k (.v (.string (bs [])))))⟩, ⟨none, (some 3), (.mv (.k (.v (.bool false))))⟩]
def r_i_FormatRegister_3 : List CO := [⟨none, (some 4), (.mv (.k (.v (.string (bs [])))))⟩]
def r_i_FormatRegister_4 : List CO := [⟨none, (some 10), (.faddr 0 (.t 1))⟩, ⟨none, (some 11), (.ld false 1 (.t 10))⟩, ⟨none, (some 12), (.len false (.t 11))⟩, ⟨none, (some 13), (.mv (.k (.v (.int .i64 (0)))))⟩]
def r_i_FormatRegister_5 : List CO := [⟨none, (some 14), (.bin .lss .none (.t 13) (.t 12))⟩]
def r_i_FormatRegister_6 : List CO := [⟨none, (some 15), (.iaddr 18 (.t 11) (.t 13))⟩, ⟨none, (some 16), (.ld true 18 (.t 15))⟩, ⟨none, (some 6), (.box 18 (.k (.agg [(.v (.int .i64 (0))), (.v (.string (bs []))), (.v (.int .i64 (0))), (.v (.int .i64 (0))), (.v (.int .i64 (0))), (.v (.int .i64 (0))), (.v (.int .i64 (0))), (.v (.int .i64 (0))), (.v (.int .i64 (0))), (.v (.int .i64 (0))), (.v (.int .i64 (0))), (.v (.int .i64 (0))), (.v (.int .i64 (0))), (.v (.int .i64 (0))), (.v (.int .i64 (0))), (.v (.int .i64 (0))), (.v (.int .i64 (0))), (.v (.int .i64 (0)))])))⟩, ⟨none, none, (.st 18 (.t 6) (.t 16))⟩]
def r_i_FormatRegister_7 : List CO := [⟨none, (some 17), (.mv (.t 4))⟩, ⟨none, (some 18), (.faddr 0 (.t 6))⟩, ⟨none, (some 19), (.ld false 1 (.t 18))⟩, ⟨none, (some 20), (.call n_strconv_Itoa [(.t 19)])⟩, ⟨none, (some 21), (.bin .add .none (.t 20) (.k (.v (.string (bs [32])))))⟩, ⟨none, (some 22), (.faddr 1 (.t 6))⟩, ⟨none, (some 23), (.ld false 1 (.t 22))⟩, ⟨none, (some 24), (.bin .add .none (.t 21) (.t 23))⟩, ⟨none, (some 25), (.bin .add .none (.t 24) (.k (.v (.string (bs [32])))))⟩, ⟨none, (some 26), (.faddr 2 (.t 6))⟩, ⟨none, (some 27), (.ld false 1 (.t 26))⟩, ⟨none, (some 28), (.call n_strconv_Itoa [(.t 27)])⟩, ⟨none, (some 29), (.bin .add .none (.t 25) (.t 28))⟩, ⟨none, (some 30), (.bin .add .none (.t 29) (.k (.v (.string (bs [32])))))⟩, ⟨none, (some 31), (.faddr 3 (.t 6))⟩, ⟨none, (some 32), (.ld true 15 (.t 31))⟩, ⟨none, (some 33), (.call n_i_Arms_text [(.t 32)])⟩, ⟨none, (some 34), (.bin .add .none (.t 30) (.t 33))⟩, ⟨none, (some 35), (.bin .add .none (.t 34) (.k (.v (.string (bs [10])))))⟩, ⟨none, (some 36), (.bin .add .none (.t 17) (.t 35))⟩, ⟨none, (some 4), (.mv (.t 36))⟩]
def p_i_FormatRegister_7 : List (List Nat) := [[], [], [1], [1, 2], [1, 2, 3], [], [5], [1, 2, 3, 4, 5, 6], [1, 2, 3, 4, 5, 6, 7], [], [9], [1, 2, 3, 9, 10], [1, 2, 3, 4, 5, 6, 7, 8, 9, 10, 11], [1, 2, 3, 4, 5, 6, 7, 8, 9, 10, 11, 12], [], [14], [1, 2, 3, 9, 10, 11, 14, 15], [1, 2, 3, 4, 5, 6, 7, 8, 9, 10, 11, 12, 13, 14, 15, 16], [1, 2, 3, 4, 5, 6, 7, 8, 9, 10, 11, 12, 13, 14, 15, 16, 17], [0, 1, 2, 3, 4, 5, 6, 7, 8, 9, 10, 11, 12, 13, 14, 15, 16, 17, 18], [0, 1, 2, 3, 4, 5, 6, 7, 8, 9, 10, 11, 12, 13, 14, 15, 16, 17, 18, 19]]
def r_i_FormatRegister_8 : List CO := [⟨none, (some 37), (.bin .add .none (.t 13) (.k (.v (.int .i64 (1)))))⟩, ⟨none, (some 13), (.mv (.t 37))⟩]
def l_i_FormatRegister_9 : C := (.seq (.reg r_i_FormatRegister_5 [4, 11, 12, 13, 14]) (.seq (.cond (.t 14) .skip (.exit 0)) (.seq (.block 1 (.seq (.reg r_i_FormatRegister_6 [4, 6, 11, 12, 13]) (.regD r_i_FormatRegister_7 p_i_FormatRegister_7 [4, 11, 12, 13]))) (.reg r_i_FormatRegister_8 [4, 11, 12, 13]))))
def r_i_FormatRegister_10 : List CO := [⟨none, (some 38), (.mv (.t 4))⟩, ⟨none, (some 2), (.mv (.t 38))⟩, ⟨none, (some 3), (.mv (.k (.v (.bool true))))⟩]
/-- loop.example/g00884/impl.FormatRegister -/
def c_i_FormatRegister : C := (.seq (.reg r_i_FormatRegister_0 [1]) (.seq (.seq (.reg r_i_FormatRegister_1 [1, 9]) (.cond (.t 9) (.seq (.reg r_i_FormatRegister_2 [2, 3]) .ret) .skip)) (.seq (.reg r_i_FormatRegister_3 [1, 4]) (.seq (.seq (.reg r_i_FormatRegister_4 [4, 11, 12, 13]) (.block 0 (.loop l_i_FormatRegister_9))) (.seq (.reg r_i_FormatRegister_10 [2, 3]) .ret)))))
def k_i_FormatRegister : Nat → List Nat
  | 0 => [1]
  | 1 => [1, 9]
  | 2 => [2, 3]
  | 3 => [1, 4]
  | 4 => [4, 11, 12, 13]
  | 5 => [4, 11, 12, 13, 14]
  | 6 => [4, 6, 11, 12, 13]
  | 7 => [4, 11, 12, 13]
  | 8 => [4, 11, 12, 13]
  | 9 => [2, 3]
  | _ => []
theorem fn_i_FormatRegister : FnC Tryz.prog n_i_FormatRegister c_i_FormatRegister [(.tmp 2), (.tmp 3)] 39 :=
  ⟨Tryz.f66, _, k_i_FormatRegister, Tryz.func66, rfl, by kernel_rfl, by kernel_rfl, by kernel_rfl, rfl⟩
def r_s_l16Text_0 : List CO := [⟨none, (some 1), (.box 1 (.t 0))⟩, ⟨none, (some 2), (.mv (.k (.v (.string (bs [])))))⟩]
def r_s_l16Text_1 : List CO := [⟨none, (some 3), (.mv (.k (.v (.string (bs [])))))⟩]
def r_s_l16Text_2 : List CO := [⟨none, (some 4), (.mv (.k (.v (.int .i64 (0)))))⟩]
def r_s_l16Text_3 : List CO := [⟨none, (some 6), (.mv (.t 4))⟩, ⟨none, (some 7), (.faddr 0 (.t 1))⟩, ⟨none, (some 8), (.ld false 1 (.t 7))⟩, ⟨none, (some 9), (.len false (.t 8))⟩, ⟨none, (some 10), (.bin .lss .none (.t 6) (.t 9))⟩]
def r_s_l16Text_4 : List CO := [⟨none, (some 13), (.faddr 0 (.t 1))⟩, ⟨none, (some 14), (.ld false 1 (.t 13))⟩, ⟨none, (some 15), (.mv (.t 4))⟩, ⟨none, (some 16), (.iaddr 18 (.t 14) (.t 15))⟩, ⟨none, (some 17), (.ld true 18 (.t 16))⟩, ⟨none, (some 5), (.box 18 (.k (.agg [(.v (.int .i64 (0))), (.v (.string (bs []))), (.v (.int .i64 (0))), (.v (.int .i64 (0))), (.v (.int .i64 (0))), (.v (.int .i64 (0))), (.v (.int .i64 (0))), (.v (.int .i64 (0))), (.v (.int .i64 (0))), (.v (.int .i64 (0))), (.v (.int .i64 (0))), (.v (.int .i64 (0))), (.v (.int .i64 (0))), (.v (.int .i64 (0))), (.v (.int .i64 (0))), (.v (.int .i64 (0))), (.v (.int .i64 (0))), (.v (.int .i64 (0)))])))⟩, ⟨none, none, (.st 18 (.t 5) (.t 17))⟩]
def r_s_l16Text_5 : List CO := [⟨none, (some 18), (.mv (.t 3))⟩, ⟨none, (some 19), (.faddr 0 (.t 5))⟩, ⟨none, (some 20), (.ld false 1 (.t 19))⟩, ⟨none, (some 21), (.call n_s_l1Num [(.t 20)])⟩, ⟨none, (some 22), (.bin .add .none (.t 18) (.t 21))⟩, ⟨none, (some 23), (.bin .add .none (.t 22) (.k (.v (.string (bs [32])))))⟩, ⟨none, (some 24), (.faddr 1 (.t 5))⟩, ⟨none, (some 25), (.ld false 1 (.t 24))⟩, ⟨none, (some 26), (.bin .add .none (.t 23) (.t 25))⟩, ⟨none, (some 27), (.bin .add .none (.t 26) (.k (.v (.string (bs [32])))))⟩, ⟨none, (some 28), (.faddr 2 (.t 5))⟩, ⟨none, (some 29), (.ld false 1 (.t 28))⟩, ⟨none, (some 30), (.call n_s_l1Num [(.t 29)])⟩, ⟨none, (some 31), (.bin .add .none (.t 27) (.t 30))⟩, ⟨none, (some 32), (.bin .add .none (.t 31) (.k (.v (.string (bs [32])))))⟩, ⟨none, (some 33), (.faddr 3 (.t 5))⟩, ⟨none, (some 34), (.ld true 15 (.t 33))⟩, ⟨none, (some 35), (.call n_s_l6Text [(.t 34)])⟩, ⟨none, (some 36), (.bin .add .none (.t 32) (.t 35))⟩, ⟨none, (some 37), (.bin .add .none (.t 36) (.k (.v (.string (bs [10])))))⟩, ⟨none, (some 3), (.mv (.t 37))⟩]
def p_s_l16Text_5 : List (List Nat) := [[], [], [1], [1, 2], [0, 1, 2, 3], [0, 1, 2, 3, 4], [], [6], [0, 1, 2, 3, 4, 5, 6, 7], [0, 1, 2, 3, 4, 5, 6, 7, 8], [], [10], [1, 2, 3, 10, 11], [0, 1, 2, 3, 4, 5, 6, 7, 8, 9, 10, 11, 12], [0, 1, 2, 3, 4, 5, 6, 7, 8, 9, 10, 11, 12, 13], [], [15], [1, 2, 3, 10, 11, 12, 15, 16], [0, 1, 2, 3, 4, 5, 6, 7, 8, 9, 10, 11, 12, 13, 14, 15, 16, 17], [0, 1, 2, 3, 4, 5, 6, 7, 8, 9, 10, 11, 12, 13, 14, 15, 16, 17, 18], [0, 1, 2, 3, 4, 5, 6, 7, 8, 9, 10, 11, 12, 13, 14, 15, 16, 17, 18, 19]]
def r_s_l16Text_6 : List CO := [⟨none, (some 11), (.mv (.t 4))⟩, ⟨none, (some 12), (.bin .add .none (.t 11) (.k (.v (.int .i64 (1)))))⟩, ⟨none, (some 4), (.mv (.t 12))⟩]
def l_s_l16Text_7 : C := (.seq (.seq (.reg r_s_l16Text_3 [1, 3, 4, 10]) (.cond (.t 10) .skip (.exit 0))) (.seq (.block 1 (.seq (.reg r_s_l16Text_4 [1, 3, 4, 5]) (.regD r_s_l16Text_5 p_s_l16Text_5 [1, 3, 4]))) (.reg r_s_l16Text_6 [1, 3, 4])))
def r_s_l16Text_8 : List CO := [⟨none, (some 38), (.mv (.t 3))⟩, ⟨none, (some 2), (.mv (.t 38))⟩]
/-- loop.example/g00884/spec.l16Text -/
def c_s_l16Text : C := (.seq (.reg r_s_l16Text_0 [1]) (.seq (.reg r_s_l16Text_1 [1, 3]) (.seq (.seq (.reg r_s_l16Text_2 [1, 3, 4]) (.block 0 (.loop l_s_l16Text_7))) (.seq (.reg r_s_l16Text_8 [2]) .ret))))
def k_s_l16Text : Nat → List Nat
  | 0 => [1]
  | 1 => [1, 3]
  | 2 => [1, 3, 4]
  | 3 => [1, 3, 4, 10]
  | 5 => [1, 3, 4, 5]
  | 6 => [1, 3, 4]
  | 4 => [1, 3, 4]
  | 7 => [2]
  | _ => []
theorem fn_s_l16Text : FnC Tryz.prog n_s_l16Text c_s_l16Text [(.tmp 2)] 39 :=
  ⟨Tryz.f62, _, k_s_l16Text, Tryz.func62, rfl, by kernel_rfl, by kernel_rfl, by kernel_rfl, rfl⟩
def r_i_FormatConsole_0 : List CO := [⟨none, (some 1), (.box 4 (.t 0))⟩, ⟨none, (some 2), (.mv (.k (.v (.string (bs [])))))⟩, ⟨none, (some 3), (.mv (.k (.v (.bool false))))⟩]
def r_i_FormatConsole_1 : List CO := [⟨none, (some 6), (.ld true 4 (.t 1))⟩, ⟨none, (some 7), (.call n_i_IsValidConsole [(.t 6)])⟩, ⟨none, (some 8), (.un .not (.t 7))⟩]
def r_i_FormatConsole_2 : List CO := [⟨none, (some 2), (.mv (.k (.v (.string (bs [])))))⟩, ⟨none, (some 3), (.mv (.k (.v (.bool false))))⟩]
def r_i_FormatConsole_3 : List CO := [⟨none, (some 10), (.faddr 0 (.t 1))⟩, ⟨none, (some 11), (.ld true 1 (.t 10))⟩, ⟨none, (some 12), (.call n_i_FormatRegister [(.t 11)])⟩, ⟨none, (some 9), (.mv (.t 12))⟩, ⟨none, (some 13), (.ext (.t 9) 0)⟩, ⟨none, (some 14), (.ext (.t 9) 1)⟩, ⟨none, (some 4), (.mv (.t 13))⟩, ⟨none, (some 5), (.mv (.t 14))⟩]
def r_i_FormatConsole_4 : List CO := [⟨none, (some 15), (.mv (.t 4))⟩, ⟨none, (some 16), (.faddr 1 (.t 1))⟩, ⟨none, (some 17), (.faddr 2 (.t 16))⟩, ⟨none, (some 18), (.ld false 1 (.t 17))⟩, ⟨none, (some 19), (.call n_strconv_Itoa [(.t 18)])⟩, ⟨none, (some 20), (.bin .add .none (.t 15) (.t 19))⟩, ⟨none, (some 21), (.bin .add .none (.t 20) (.k (.v (.string (bs [10])))))⟩, ⟨none, (some 2), (.mv (.t 21))⟩, ⟨none, (some 3), (.mv (.k (.v (.bool true))))⟩]
/-- loop.example/g00884/impl.FormatConsole -/
def c_i_FormatConsole : C := (.seq (.reg r_i_FormatConsole_0 [1]) (.seq (.seq (.reg r_i_FormatConsole_1 [1, 8]) (.cond (.t 8) (.seq (.reg r_i_FormatConsole_2 [2, 3]) .ret) .skip)) (.seq (.reg r_i_FormatConsole_3 [1, 4]) (.seq (.reg r_i_FormatConsole_4 [2, 3]) .ret))))
def k_i_FormatConsole : Nat → List Nat
  | 0 => [1]
  | 1 => [1, 8]
  | 2 => [2, 3]
  | 3 => [1, 4]
  | 4 => [2, 3]
  | _ => []
theorem fn_i_FormatConsole : FnC Tryz.prog n_i_FormatConsole c_i_FormatConsole [(.tmp 2), (.tmp 3)] 22 :=
  ⟨Tryz.f22, _, k_i_FormatConsole, Tryz.func22, rfl, by kernel_rfl, by kernel_rfl, by kernel_rfl, rfl⟩
def r_s_FormatConsole_0 : List CO := [⟨none, (some 1), (.box 4 (.t 0))⟩, ⟨none, (some 2), (.mv (.k (.v (.string (bs [])))))⟩, ⟨none, (some 3), (.mv (.k (.v (.bool false))))⟩]
def r_s_FormatConsole_1 : List CO := [⟨none, (some 4), (.ld true 4 (.t 1))⟩, ⟨none, (some 5), (.call n_s_l28Good [(.t 4)])⟩, ⟨none, (some 6), (.un .not (.t 5))⟩]
def r_s_FormatConsole_2 : List CO := [⟨none, (some 2), (.mv (.k (.v (.string (bs [])))))⟩, ⟨none, (some 3), (.mv (.k (.v (.bool false))))⟩]
def r_s_FormatConsole_3 : List CO := [⟨none, (some 7), (.faddr 0 (.t 1))⟩, ⟨none, (some 8), (.ld true 1 (.t 7))⟩, ⟨none, (some 9), (.call n_s_l16Text [(.t 8)])⟩, ⟨none, (some 10), (.faddr 1 (.t 1))⟩, ⟨none, (some 11), (.faddr 2 (.t 10))⟩, ⟨none, (some 12), (.ld false 1 (.t 11))⟩, ⟨none, (some 13), (.call n_s_l1Num [(.t 12)])⟩, ⟨none, (some 14), (.bin .add .none (.t 9) (.t 13))⟩, ⟨none, (some 15), (.bin .add .none (.t 14) (.k (.v (.string (bs [10])))))⟩, ⟨none, (some 2), (.mv (.t 15))⟩, ⟨none, (some 3), (.mv (.k (.v (.bool true))))⟩]
def p_s_FormatConsole_3 : List (List Nat) := [[], [0], [0, 1], [], [3], [3, 4], [0, 1, 2, 3, 4, 5], [0, 1, 2, 3, 4, 5, 6], [0, 1, 2, 3, 4, 5, 6, 7], [0, 1, 2, 3, 4, 5, 6, 7, 8], [0, 1, 2, 3, 4, 5, 6, 7, 8, 9]]
/-- loop.example/g00884/spec.FormatConsole -/
def c_s_FormatConsole : C := (.seq (.reg r_s_FormatConsole_0 [1]) (.seq (.seq (.reg r_s_FormatConsole_1 [1, 6]) (.cond (.t 6) (.seq (.reg r_s_FormatConsole_2 [2, 3]) .ret) .skip)) (.seq (.regD r_s_FormatConsole_3 p_s_FormatConsole_3 [2, 3]) .ret)))
def k_s_FormatConsole : Nat → List Nat
  | 0 => [1]
  | 1 => [1, 6]
  | 2 => [2, 3]
  | 3 => [2, 3]
  | _ => []
theorem fn_s_FormatConsole : FnC Tryz.prog n_s_FormatConsole c_s_FormatConsole [(.tmp 2), (.tmp 3)] 16 :=
  ⟨Tryz.f20, _, k_s_FormatConsole, Tryz.func20, rfl, by kernel_rfl, by kernel_rfl, by kernel_rfl, rfl⟩
def r_w_FnExactFormatConsole_0 : List CO := [⟨none, (some 1), (.box 4 (.t 0))⟩, ⟨none, (some 2), (.mv (.k (.v (.bool false))))⟩]
def r_w_FnExactFormatConsole_1 : List CO := [⟨none, (some 3), (.mv (.k (.v (.int .i64 (1048576)))))⟩]
def r_w_FnExactFormatConsole_2 : List CO := [⟨none, (some 9), (.ld true 4 (.t 1))⟩, ⟨none, (some 10), (.mv (.t 3))⟩, ⟨none, (some 11), (.call n_w_szConsole [(.t 9), (.t 10)])⟩, ⟨none, (some 3), (.mv (.t 11))⟩]
def r_w_FnExactFormatConsole_3 : List CO := [⟨none, (some 12), (.mv (.t 3))⟩, ⟨none, (some 13), (.bin .lss .none (.t 12) (.k (.v (.int .i64 (0)))))⟩]
def r_w_FnExactFormatConsole_4 : List CO := [⟨none, (some 2), (.mv (.k (.v (.bool true))))⟩]
def r_w_FnExactFormatConsole_5 : List CO := [⟨none, (some 15), (.ld true 4 (.t 1))⟩, ⟨none, (some 16), (.call n_w_toConsole [(.t 15)])⟩, ⟨none, (some 17), (.call n_s_FormatConsole [(.t 16)])⟩, ⟨none, (some 14), (.mv (.t 17))⟩, ⟨none, (some 18), (.ext (.t 14) 0)⟩, ⟨none, (some 19), (.ext (.t 14) 1)⟩, ⟨none, (some 4), (.mv (.t 18))⟩, ⟨none, (some 5), (.mv (.t 19))⟩]
def r_w_FnExactFormatConsole_6 : List CO := [⟨none, (some 20), (.ld true 4 (.t 1))⟩, ⟨none, (some 21), (.call n_w_toConsole [(.t 20)])⟩, ⟨none, (some 6), (.box 4 (.k (.agg [(.v (.slice none 0 0)), (.v (.string (bs []))), (.v (.string (bs []))), (.v (.int .i64 (0)))])))⟩, ⟨none, none, (.st 4 (.t 6) (.t 21))⟩]
def r_w_FnExactFormatConsole_7 : List CO := [⟨none, (some 23), (.ld true 4 (.t 6))⟩, ⟨none, (some 24), (.call n_i_FormatConsole [(.t 23)])⟩, ⟨none, (some 22), (.mv (.t 24))⟩, ⟨none, (some 25), (.ext (.t 22) 0)⟩, ⟨none, (some 26), (.ext (.t 22) 1)⟩, ⟨none, (some 7), (.mv (.t 25))⟩, ⟨none, (some 8), (.mv (.t 26))⟩]
def r_w_FnExactFormatConsole_8 : List CO := [⟨none, (some 27), (.mv (.t 7))⟩, ⟨none, (some 28), (.mv (.t 4))⟩, ⟨none, (some 29), (.bin .neq .none (.t 27) (.t 28))⟩, ⟨none, (some 30), (.mv (.t 29))⟩, ⟨(some (30, false)), (some 31), (.mv (.t 8))⟩, ⟨(some (30, false)), (some 32), (.mv (.t 5))⟩, ⟨(some (30, false)), (some 33), (.bin .neq .bool (.t 31) (.t 32))⟩, ⟨none, (some 34), (.pick (.t 30) (.k (.v (.bool true))) (.t 33))⟩]
def r_w_FnExactFormatConsole_9 : List CO := [⟨none, (some 2), (.mv (.k (.v (.bool false))))⟩]
def r_w_FnExactFormatConsole_10 : List CO := [⟨none, (some 35), (.ld true 4 (.t 6))⟩, ⟨none, (some 36), (.ld true 4 (.t 1))⟩, ⟨none, (some 37), (.call n_w_toConsole [(.t 36)])⟩, ⟨none, (some 38), (.call n_w_eqConsole [(.t 35), (.t 37)])⟩, ⟨none, (some 39), (.un .not (.t 38))⟩]
def p_w_FnExactFormatConsole_10 : List (List Nat) := [[], [], [1], [0, 1, 2], [0, 1, 2, 3]]
def r_w_FnExactFormatConsole_11 : List CO := [⟨none, (some 2), (.mv (.k (.v (.bool false))))⟩]
def r_w_FnExactFormatConsole_12 : List CO := [⟨none, (some 2), (.mv (.k (.v (.bool true))))⟩]
/-- loop.example/g00884/laws.FnExactFormatConsole -/
def c_w_FnExactFormatConsole : C := (.seq (.reg r_w_FnExactFormatConsole_0 [1]) (.seq (.reg r_w_FnExactFormatConsole_1 [1, 3]) (.seq (.reg r_w_FnExactFormatConsole_2 [1, 3]) (.seq (.seq (.reg r_w_FnExactFormatConsole_3 [1, 13]) (.cond (.t 13) (.seq (.reg r_w_FnExactFormatConsole_4 [2]) .ret) .skip)) (.seq (.reg r_w_FnExactFormatConsole_5 [1, 4, 5]) (.seq (.reg r_w_FnExactFormatConsole_6 [1, 4, 5, 6]) (.seq (.reg r_w_FnExactFormatConsole_7 [1, 4, 5, 6, 7, 8]) (.seq (.seq (.reg r_w_FnExactFormatConsole_8 [1, 6, 34]) (.cond (.t 34) (.seq (.reg r_w_FnExactFormatConsole_9 [2]) .ret) .skip)) (.seq (.seq (.regD r_w_FnExactFormatConsole_10 p_w_FnExactFormatConsole_10 [39]) (.cond (.t 39) (.seq (.reg r_w_FnExactFormatConsole_11 [2]) .ret) .skip)) (.seq (.reg r_w_FnExactFormatConsole_12 [2]) .ret))))))))))
def k_w_FnExactFormatConsole : Nat → List Nat
  | 0 => [1]
  | 1 => [1, 3]
  | 2 => [1, 3]
  | 3 => [1, 13]
  | 4 => [2]
  | 5 => [1, 4, 5]
  | 6 => [1, 4, 5, 6]
  | 7 => [1, 4, 5, 6, 7, 8]
  | 8 => [1, 6, 34]
  | 9 => [2]
  | 10 => [39]
  | 11 => [2]
  | 12 => [2]
  | _ => []
theorem fn_w_FnExactFormatConsole : FnC Tryz.prog n_w_FnExactFormatConsole c_w_FnExactFormatConsole [(.tmp 2)] 40 :=
  ⟨Tryz.f4, _, k_w_FnExactFormatConsole, Tryz.func4, rfl, by kernel_rfl, by kernel_rfl, by kernel_rfl, rfl⟩
end Go.Proofs.YtbeoijlggphklaaGreatDoor

/- The compact code of the functions, and that it is theirs: written by a program of this claim. -/
namespace Go.Proofs.YtbeoijlggphklaaGreatDoor
open Go.Abs
set_option maxRecDepth 100000
def r_i_IsValidConsole_0 : List CO := [⟨none, (some 1), (.box 4 (.t 0))⟩, ⟨none, (some 2), (.mv (.k (.v (.bool false))))⟩]
def r_i_IsValidConsole_1 : List CO := [⟨none, (some 3), (.faddr 0 (.t 1))⟩, ⟨none, (some 4), (.ld true 1 (.t 3))⟩, ⟨none, (some 5), (.call n_i_IsValidRegister [(.t 4)])⟩, ⟨none, (some 6), (.mv (.t 5))⟩, ⟨(some (6, true)), (some 7), (.faddr 1 (.t 1))⟩, ⟨(some (6, true)), (some 8), (.ld true 3 (.t 7))⟩, ⟨(some (6, true)), (some 9), (.call n_i_IsValidLog [(.t 8)])⟩, ⟨none, (some 10), (.pick (.t 6) (.t 9) (.k (.v (.bool false))))⟩, ⟨none, (some 2), (.mv (.t 10))⟩]
/-- loop.example/g00884/impl.IsValidConsole -/
def c_i_IsValidConsole : C := (.seq (.reg r_i_IsValidConsole_0 [1]) (.seq (.reg r_i_IsValidConsole_1 [2]) .ret))
def k_i_IsValidConsole : Nat → List Nat
  | 0 => [1]
  | 1 => [2]
  | _ => []
theorem fn_i_IsValidConsole : FnC Tryz.prog n_i_IsValidConsole c_i_IsValidConsole [(.tmp 2)] 11 :=
  ⟨Tryz.f65, _, k_i_IsValidConsole, Tryz.func65, rfl, by kernel_rfl, by kernel_rfl, by kernel_rfl, rfl⟩
def r_s_l28Good_0 : List CO := [⟨none, (some 1), (.box 4 (.t 0))⟩, ⟨none, (some 2), (.mv (.k (.v (.bool false))))⟩]
def r_s_l28Good_1 : List CO := [⟨none, (some 3), (.faddr 0 (.t 1))⟩, ⟨none, (some 4), (.ld true 1 (.t 3))⟩, ⟨none, (some 5), (.call n_s_l16Good [(.t 4)])⟩, ⟨none, (some 6), (.mv (.t 5))⟩, ⟨(some (6, true)), (some 7), (.faddr 1 (.t 1))⟩, ⟨(some (6, true)), (some 8), (.ld true 3 (.t 7))⟩, ⟨(some (6, true)), (some 9), (.call n_s_l27Log [(.t 8)])⟩, ⟨none, (some 10), (.pick (.t 6) (.t 9) (.k (.v (.bool false))))⟩, ⟨none, (some 2), (.mv (.t 10))⟩]
/-- loop.example/g00884/spec.l28Good -/
def c_s_l28Good : C := (.seq (.reg r_s_l28Good_0 [1]) (.seq (.reg r_s_l28Good_1 [2]) .ret))
def k_s_l28Good : Nat → List Nat
  | 0 => [1]
  | 1 => [2]
  | _ => []
theorem fn_s_l28Good : FnC Tryz.prog n_s_l28Good c_s_l28Good [(.tmp 2)] 11 :=
  ⟨Tryz.f61, _, k_s_l28Good, Tryz.func61, rfl, by kernel_rfl, by kernel_rfl, by kernel_rfl, rfl⟩
def r_w_toConsole_0 : List CO := [⟨none, (some 1), (.box 4 (.t 0))⟩, ⟨none, (some 2), (.box 4 (.k (.agg [(.v (.slice none 0 0)), (.v (.string (bs []))), (.v (.string (bs []))), (.v (.int .i64 (0)))])))⟩]
def r_w_toConsole_1 : List CO := [⟨none, (some 3), (.box 4 (.k (.agg [(.v (.slice none 0 0)), (.v (.string (bs []))), (.v (.string (bs []))), (.v (.int .i64 (0)))])))⟩]
def r_w_toConsole_2 : List CO := [⟨none, (some 4), (.faddr 0 (.t 1))⟩, ⟨none, (some 5), (.ld true 1 (.t 4))⟩, ⟨none, (some 6), (.call n_w_toRegister [(.t 5)])⟩, ⟨none, (some 7), (.faddr 0 (.t 3))⟩, ⟨none, none, (.st 1 (.t 7) (.t 6))⟩]
def r_w_toConsole_3 : List CO := [⟨none, (some 8), (.faddr 1 (.t 1))⟩, ⟨none, (some 9), (.ld true 3 (.t 8))⟩, ⟨none, (some 10), (.call n_w_toLog [(.t 9)])⟩, ⟨none, (some 11), (.faddr 1 (.t 3))⟩, ⟨none, none, (.st 3 (.t 11) (.t 10))⟩]
def r_w_toConsole_4 : List CO := [⟨none, (some 12), (.ld true 4 (.t 3))⟩, ⟨none, none, (.st 4 (.t 2) (.t 12))⟩]
/-- loop.example/g00884/laws.toConsole -/
def c_w_toConsole : C := (.seq (.reg r_w_toConsole_0 [1, 2]) (.seq (.reg r_w_toConsole_1 [1, 2, 3]) (.seq (.reg r_w_toConsole_2 [1, 2, 3]) (.seq (.reg r_w_toConsole_3 [2, 3]) (.seq (.reg r_w_toConsole_4 [2]) .ret)))))
def k_w_toConsole : Nat → List Nat
  | 0 => [1, 2]
  | 1 => [1, 2, 3]
  | 2 => [1, 2, 3]
  | 3 => [2, 3]
  | 4 => [2]
  | _ => []
theorem fn_w_toConsole : FnC Tryz.prog n_w_toConsole c_w_toConsole [(.cell 2 true 4)] 13 :=
  ⟨Tryz.f21, _, k_w_toConsole, Tryz.func21, rfl, by kernel_rfl, by kernel_rfl, by kernel_rfl, rfl⟩
def r_w_szConsole_0 : List CO := [⟨none, (some 2), (.box 4 (.t 0))⟩, ⟨none, (some 4), (.mv (.k (.v (.int .i64 (0)))))⟩]
def r_w_szConsole_1 : List CO := [⟨none, (some 5), (.faddr 0 (.t 2))⟩, ⟨none, (some 6), (.ld true 1 (.t 5))⟩, ⟨none, (some 7), (.mv (.t 1))⟩, ⟨none, (some 8), (.call n_w_szRegister [(.t 6), (.t 7)])⟩, ⟨none, (some 1), (.mv (.t 8))⟩]
def r_w_szConsole_2 : List CO := [⟨none, (some 9), (.mv (.t 1))⟩, ⟨none, (some 10), (.bin .lss .none (.t 9) (.k (.v (.int .i64 (0)))))⟩]
def r_w_szConsole_3 : List CO := [⟨none, (some 4), (.mv (.k (.v (.int .i64 (-1)))))⟩]
def r_w_szConsole_4 : List CO := [⟨none, (some 11), (.faddr 1 (.t 2))⟩, ⟨none, (some 12), (.ld true 3 (.t 11))⟩, ⟨none, (some 13), (.mv (.t 1))⟩, ⟨none, (some 14), (.call n_w_szLog [(.t 12), (.t 13)])⟩, ⟨none, (some 1), (.mv (.t 14))⟩]
def r_w_szConsole_5 : List CO := [⟨none, (some 15), (.mv (.t 1))⟩, ⟨none, (some 16), (.bin .lss .none (.t 15) (.k (.v (.int .i64 (0)))))⟩]
def r_w_szConsole_6 : List CO := [⟨none, (some 4), (.mv (.k (.v (.int .i64 (-1)))))⟩]
def r_w_szConsole_7 : List CO := [⟨none, (some 17), (.mv (.t 1))⟩, ⟨none, (some 4), (.mv (.t 17))⟩]
/-- loop.example/g00884/laws.szConsole -/
def c_w_szConsole : C := (.seq (.reg r_w_szConsole_0 [1, 2]) (.seq (.reg r_w_szConsole_1 [1, 2]) (.seq (.seq (.reg r_w_szConsole_2 [1, 2, 10]) (.cond (.t 10) (.seq (.reg r_w_szConsole_3 [4]) .ret) .skip)) (.seq (.reg r_w_szConsole_4 [1]) (.seq (.seq (.reg r_w_szConsole_5 [1, 16]) (.cond (.t 16) (.seq (.reg r_w_szConsole_6 [4]) .ret) .skip)) (.seq (.reg r_w_szConsole_7 [4]) .ret))))))
def k_w_szConsole : Nat → List Nat
  | 0 => [1, 2]
  | 1 => [1, 2]
  | 2 => [1, 2, 10]
  | 3 => [4]
  | 4 => [1]
  | 5 => [1, 16]
  | 6 => [4]
  | 7 => [4]
  | _ => []
theorem fn_w_szConsole : FnC Tryz.prog n_w_szConsole c_w_szConsole [(.tmp 4)] 18 :=
  ⟨Tryz.f19, _, k_w_szConsole, Tryz.func19, rfl, by kernel_rfl, by kernel_rfl, by kernel_rfl, rfl⟩
end Go.Proofs.YtbeoijlggphklaaGreatDoor

/- The compact code of the functions, and that it is theirs: written by a program of this claim. -/
namespace Go.Proofs.YtbeoijlggphklaaGreatDoor
open Go.Abs
set_option maxRecDepth 100000
def r_i_isName_0 : List CO := [⟨none, (some 2), (.mv (.k (.v (.bool false))))⟩]
def r_i_isName_1 : List CO := [⟨none, (some 4), (.mv (.t 0))⟩, ⟨none, (some 5), (.len true (.t 4))⟩, ⟨none, (some 6), (.mv (.k (.v (.int .i64 (0)))))⟩]
def r_i_isName_2 : List CO := [⟨none, (some 7), (.bin .lss .none (.t 6) (.t 5))⟩]
def r_i_isName_3 : List CO := [⟨none, (some 8), (.mv (.t 6))⟩, ⟨none, (some 3), (.mv (.t 8))⟩]
def r_i_isName_4 : List CO := [⟨none, (some 9), (.mv (.t 3))⟩, ⟨none, (some 10), (.bin .eql .none (.t 9) (.k (.v (.int .i64 (0)))))⟩, ⟨none, (some 11), (.mv (.t 10))⟩, ⟨(some (11, true)), (some 12), (.mv (.t 0))⟩, ⟨(some (11, true)), (some 13), (.mv (.t 3))⟩, ⟨(some (11, true)), (some 14), (.idx (.t 12) (.t 13))⟩, ⟨(some (11, true)), (some 15), (.bin .lss .none (.t 14) (.k (.v (.int .u8 (65)))))⟩, ⟨(some (11, true)), (some 16), (.mv (.t 15))⟩, ⟨(some (16, false)), (some 17), (.mv (.t 0))⟩, ⟨(some (16, false)), (some 18), (.mv (.t 3))⟩, ⟨(some (16, false)), (some 19), (.idx (.t 17) (.t 18))⟩, ⟨(some (16, false)), (some 20), (.bin .gtr .none (.t 19) (.k (.v (.int .u8 (90)))))⟩, ⟨(some (11, true)), (some 21), (.pick (.t 16) (.k (.v (.bool true))) (.t 20))⟩, ⟨none, (some 22), (.pick (.t 11) (.t 21) (.k (.v (.bool false))))⟩, ⟨none, (some 23), (.mv (.t 22))⟩, ⟨(some (23, false)), (some 24), (.mv (.t 3))⟩, ⟨(some (23, false)), (some 25), (.bin .gtr .none (.t 24) (.k (.v (.int .i64 (0)))))⟩, ⟨(some (23, false)), (some 26), (.mv (.t 25))⟩, ⟨(some (26, true)), (some 27), (.mv (.t 0))⟩, ⟨(some (26, true)), (some 28), (.mv (.t 3))⟩, ⟨(some (26, true)), (some 29), (.idx (.t 27) (.t 28))⟩, ⟨(some (26, true)), (some 30), (.bin .lss .none (.t 29) (.k (.v (.int .u8 (97)))))⟩, ⟨(some (26, true)), (some 31), (.mv (.t 30))⟩, ⟨(some (31, false)), (some 32), (.mv (.t 0))⟩, ⟨(some (31, false)), (some 33), (.mv (.t 3))⟩, ⟨(some (31, false)), (some 34), (.idx (.t 32) (.t 33))⟩, ⟨(some (31, false)), (some 35), (.bin .gtr .none (.t 34) (.k (.v (.int .u8 (122)))))⟩, ⟨(some (26, true)), (some 36), (.pick (.t 31) (.k (.v (.bool true))) (.t 35))⟩, ⟨(some (23, false)), (some 37), (.pick (.t 26) (.t 36) (.k (.v (.bool false))))⟩, ⟨none, (some 38), (.pick (.t 23) (.k (.v (.bool true))) (.t 37))⟩]
def r_i_isName_5 : List CO := [⟨none, (some 2), (.mv (.k (.v (.bool false))))⟩]
def r_i_isName_6 : List CO := [⟨none, (some 39), (.bin .add .none (.t 6) (.k (.v (.int .i64 (1)))))⟩, ⟨none, (some 6), (.mv (.t 39))⟩]
def l_i_isName_7 : C := (.seq (.reg r_i_isName_2 [0, 5, 6, 7]) (.seq (.cond (.t 7) .skip (.exit 0)) (.seq (.block 1 (.seq (.reg r_i_isName_3 [0, 3, 5, 6]) (.seq (.reg r_i_isName_4 [0, 5, 6, 38]) (.cond (.t 38) (.seq (.reg r_i_isName_5 [2]) .ret) .skip)))) (.reg r_i_isName_6 [0, 5, 6]))))
def r_i_isName_8 : List CO := [⟨none, (some 40), (.mv (.t 0))⟩, ⟨none, (some 41), (.len true (.t 40))⟩, ⟨none, (some 42), (.call n_i_inside [(.t 41), (.k (.v (.int .i64 (1)))), (.k (.v (.int .i64 (12))))])⟩, ⟨none, (some 2), (.mv (.t 42))⟩]
/-- loop.example/g00884/impl.isName -/
def c_i_isName : C := (.seq (.reg r_i_isName_0 [0]) (.seq (.seq (.reg r_i_isName_1 [0, 5, 6]) (.block 0 (.loop l_i_isName_7))) (.seq (.reg r_i_isName_8 [2]) .ret)))
def k_i_isName : Nat → List Nat
  | 0 => [0]
  | 1 => [0, 5, 6]
  | 2 => [0, 5, 6, 7]
  | 3 => [0, 3, 5, 6]
  | 4 => [0, 5, 6, 38]
  | 5 => [2]
  | 6 => [0, 5, 6]
  | 7 => [2]
  | _ => []
theorem fn_i_isName : FnC Tryz.prog n_i_isName c_i_isName [(.tmp 2)] 43 :=
  ⟨Tryz.f96, _, k_i_isName, Tryz.func96, rfl, by kernel_rfl, by kernel_rfl, by kernel_rfl, rfl⟩
def r_s_l16Name_0 : List CO := [⟨none, (some 2), (.mv (.k (.v (.bool false))))⟩]
def r_s_l16Name_1 : List CO := [⟨none, (some 4), (.mv (.t 0))⟩, ⟨none, (some 5), (.len true (.t 4))⟩, ⟨none, (some 6), (.call n_s_l1In [(.t 5), (.k (.v (.int .i64 (1)))), (.k (.v (.int .i64 (12))))])⟩, ⟨none, (some 7), (.un .not (.t 6))⟩, ⟨none, (some 8), (.mv (.t 7))⟩, ⟨(some (8, false)), (some 9), (.mv (.t 0))⟩, ⟨(some (8, false)), (some 10), (.idx (.t 9) (.k (.v (.int .i64 (0)))))⟩, ⟨(some (8, false)), (some 11), (.bin .lss .none (.t 10) (.k (.v (.int .u8 (65)))))⟩, ⟨none, (some 12), (.pick (.t 8) (.k (.v (.bool true))) (.t 11))⟩, ⟨none, (some 13), (.mv (.t 12))⟩, ⟨(some (13, false)), (some 14), (.mv (.t 0))⟩, ⟨(some (13, false)), (some 15), (.idx (.t 14) (.k (.v (.int .i64 (0)))))⟩, ⟨(some (13, false)), (some 16), (.bin .gtr .none (.t 15) (.k (.v (.int .u8 (90)))))⟩, ⟨none, (some 17), (.pick (.t 13) (.k (.v (.bool true))) (.t 16))⟩]
def r_s_l16Name_2 : List CO := [⟨none, (some 2), (.mv (.k (.v (.bool false))))⟩]
def r_s_l16Name_3 : List CO := [⟨none, (some 3), (.mv (.k (.v (.int .i64 (1)))))⟩]
def r_s_l16Name_4 : List CO := [⟨none, (some 18), (.mv (.t 3))⟩, ⟨none, (some 19), (.mv (.t 0))⟩, ⟨none, (some 20), (.len true (.t 19))⟩, ⟨none, (some 21), (.bin .lss .none (.t 18) (.t 20))⟩]
def r_s_l16Name_5 : List CO := [⟨none, (some 24), (.mv (.t 0))⟩, ⟨none, (some 25), (.mv (.t 3))⟩, ⟨none, (some 26), (.idx (.t 24) (.t 25))⟩, ⟨none, (some 27), (.bin .lss .none (.t 26) (.k (.v (.int .u8 (97)))))⟩, ⟨none, (some 28), (.mv (.t 27))⟩, ⟨(some (28, false)), (some 29), (.mv (.t 0))⟩, ⟨(some (28, false)), (some 30), (.mv (.t 3))⟩, ⟨(some (28, false)), (some 31), (.idx (.t 29) (.t 30))⟩, ⟨(some (28, false)), (some 32), (.bin .gtr .none (.t 31) (.k (.v (.int .u8 (122)))))⟩, ⟨none, (some 33), (.pick (.t 28) (.k (.v (.bool true))) (.t 32))⟩]
def r_s_l16Name_6 : List CO := [⟨none, (some 2), (.mv (.k (.v (.bool false))))⟩]
def r_s_l16Name_7 : List CO := [⟨none, (some 22), (.mv (.t 3))⟩, ⟨none, (some 23), (.bin .add .none (.t 22) (.k (.v (.int .i64 (1)))))⟩, ⟨none, (some 3), (.mv (.t 23))⟩]
def l_s_l16Name_8 : C := (.seq (.seq (.reg r_s_l16Name_4 [0, 3, 21]) (.cond (.t 21) .skip (.exit 0))) (.seq (.block 1 (.seq (.reg r_s_l16Name_5 [0, 3, 33]) (.cond (.t 33) (.seq (.reg r_s_l16Name_6 [2]) .ret) .skip))) (.reg r_s_l16Name_7 [0, 3])))
def r_s_l16Name_9 : List CO := [⟨none, (some 2), (.mv (.k (.v (.bool true))))⟩]
/-- loop.example/g00884/spec.l16Name -/
def c_s_l16Name : C := (.seq (.reg r_s_l16Name_0 [0]) (.seq (.seq (.reg r_s_l16Name_1 [0, 17]) (.cond (.t 17) (.seq (.reg r_s_l16Name_2 [2]) .ret) .skip)) (.seq (.seq (.reg r_s_l16Name_3 [0, 3]) (.block 0 (.loop l_s_l16Name_8))) (.seq (.reg r_s_l16Name_9 [2]) .ret))))
def k_s_l16Name : Nat → List Nat
  | 0 => [0]
  | 1 => [0, 17]
  | 2 => [2]
  | 3 => [0, 3]
  | 4 => [0, 3, 21]
  | 6 => [0, 3, 33]
  | 7 => [2]
  | 5 => [0, 3]
  | 8 => [2]
  | _ => []
theorem fn_s_l16Name : FnC Tryz.prog n_s_l16Name c_s_l16Name [(.tmp 2)] 34 :=
  ⟨Tryz.f131, _, k_s_l16Name, Tryz.func131, rfl, by kernel_rfl, by kernel_rfl, by kernel_rfl, rfl⟩
def r_s_l16Grant_0 : List CO := [⟨none, (some 1), (.box 18 (.t 0))⟩, ⟨none, (some 2), (.mv (.k (.v (.bool false))))⟩]
def r_s_l16Grant_1 : List CO := [⟨none, (some 3), (.faddr 0 (.t 1))⟩, ⟨none, (some 4), (.ld false 1 (.t 3))⟩, ⟨none, (some 5), (.call n_s_l1In [(.t 4), (.k (.v (.int .i64 (1)))), (.k (.v (.int .i64 (999))))])⟩, ⟨none, (some 6), (.mv (.t 5))⟩, ⟨(some (6, true)), (some 7), (.faddr 1 (.t 1))⟩, ⟨(some (6, true)), (some 8), (.ld false 1 (.t 7))⟩, ⟨(some (6, true)), (some 9), (.call n_s_l16Name [(.t 8)])⟩, ⟨none, (some 10), (.pick (.t 6) (.t 9) (.k (.v (.bool false))))⟩, ⟨none, (some 11), (.mv (.t 10))⟩, ⟨(some (11, true)), (some 12), (.faddr 2 (.t 1))⟩, ⟨(some (11, true)), (some 13), (.ld false 1 (.t 12))⟩, ⟨(some (11, true)), (some 14), (.call n_s_l1In [(.t 13), (.k (.v (.int .i64 (1000)))), (.k (.v (.int .i64 (2999))))])⟩, ⟨none, (some 15), (.pick (.t 11) (.t 14) (.k (.v (.bool false))))⟩, ⟨none, (some 16), (.mv (.t 15))⟩, ⟨(some (16, true)), (some 17), (.faddr 3 (.t 1))⟩, ⟨(some (16, true)), (some 18), (.ld true 15 (.t 17))⟩, ⟨(some (16, true)), (some 19), (.call n_s_l5Good [(.t 18)])⟩, ⟨none, (some 20), (.pick (.t 16) (.t 19) (.k (.v (.bool false))))⟩, ⟨none, (some 2), (.mv (.t 20))⟩]
/-- loop.example/g00884/spec.l16Grant -/
def c_s_l16Grant : C := (.seq (.reg r_s_l16Grant_0 [1]) (.seq (.reg r_s_l16Grant_1 [2]) .ret))
def k_s_l16Grant : Nat → List Nat
  | 0 => [1]
  | 1 => [2]
  | _ => []
theorem fn_s_l16Grant : FnC Tryz.prog n_s_l16Grant c_s_l16Grant [(.tmp 2)] 21 :=
  ⟨Tryz.f90, _, k_s_l16Grant, Tryz.func90, rfl, by kernel_rfl, by kernel_rfl, by kernel_rfl, rfl⟩
def r_s_l16Good_0 : List CO := [⟨none, (some 1), (.box 1 (.t 0))⟩, ⟨none, (some 2), (.mv (.k (.v (.bool false))))⟩]
def r_s_l16Good_1 : List CO := [⟨none, (some 5), (.faddr 0 (.t 1))⟩, ⟨none, (some 6), (.ld false 1 (.t 5))⟩, ⟨none, (some 7), (.len false (.t 6))⟩, ⟨none, (some 8), (.bin .gtr .none (.t 7) (.k (.v (.int .i64 (12)))))⟩]
def r_s_l16Good_2 : List CO := [⟨none, (some 2), (.mv (.k (.v (.bool false))))⟩]
def r_s_l16Good_3 : List CO := [⟨none, (some 3), (.mv (.k (.v (.int .i64 (0)))))⟩]
def r_s_l16Good_4 : List CO := [⟨none, (some 9), (.mv (.t 3))⟩, ⟨none, (some 10), (.faddr 0 (.t 1))⟩, ⟨none, (some 11), (.ld false 1 (.t 10))⟩, ⟨none, (some 12), (.len false (.t 11))⟩, ⟨none, (some 13), (.bin .lss .none (.t 9) (.t 12))⟩]
def r_s_l16Good_5 : List CO := [⟨none, (some 16), (.faddr 0 (.t 1))⟩, ⟨none, (some 17), (.ld false 1 (.t 16))⟩, ⟨none, (some 18), (.mv (.t 3))⟩, ⟨none, (some 19), (.iaddr 18 (.t 17) (.t 18))⟩, ⟨none, (some 20), (.ld true 18 (.t 19))⟩, ⟨none, (some 21), (.call n_s_l16Grant [(.t 20)])⟩, ⟨none, (some 22), (.un .not (.t 21))⟩, ⟨none, (some 23), (.mv (.t 22))⟩, ⟨(some (23, false)), (some 24), (.mv (.t 3))⟩, ⟨(some (23, false)), (some 25), (.bin .gtr .none (.t 24) (.k (.v (.int .i64 (0)))))⟩, ⟨(some (23, false)), (some 26), (.mv (.t 25))⟩, ⟨(some (26, true)), (some 27), (.faddr 0 (.t 1))⟩, ⟨(some (26, true)), (some 28), (.ld false 1 (.t 27))⟩, ⟨(some (26, true)), (some 29), (.mv (.t 3))⟩, ⟨(some (26, true)), (some 30), (.bin .sub .none (.t 29) (.k (.v (.int .i64 (1)))))⟩, ⟨(some (26, true)), (some 31), (.iaddr 18 (.t 28) (.t 30))⟩, ⟨(some (26, true)), (some 32), (.faddr 0 (.t 31))⟩, ⟨(some (26, true)), (some 33), (.ld false 1 (.t 32))⟩, ⟨(some (26, true)), (some 34), (.faddr 0 (.t 1))⟩, ⟨(some (26, true)), (some 35), (.ld false 1 (.t 34))⟩, ⟨(some (26, true)), (some 36), (.mv (.t 3))⟩, ⟨(some (26, true)), (some 37), (.iaddr 18 (.t 35) (.t 36))⟩, ⟨(some (26, true)), (some 38), (.faddr 0 (.t 37))⟩, ⟨(some (26, true)), (some 39), (.ld false 1 (.t 38))⟩, ⟨(some (26, true)), (some 40), (.bin .geq .none (.t 33) (.t 39))⟩, ⟨(some (26, true)), (some 41), (.mv (.t 40))⟩, ⟨(some (41, false)), (some 42), (.faddr 0 (.t 1))⟩, ⟨(some (41, false)), (some 43), (.ld false 1 (.t 42))⟩, ⟨(some (41, false)), (some 44), (.mv (.t 3))⟩, ⟨(some (41, false)), (some 45), (.bin .sub .none (.t 44) (.k (.v (.int .i64 (1)))))⟩, ⟨(some (41, false)), (some 46), (.iaddr 18 (.t 43) (.t 45))⟩, ⟨(some (41, false)), (some 47), (.faddr 2 (.t 46))⟩, ⟨(some (41, false)), (some 48), (.ld false 1 (.t 47))⟩, ⟨(some (41, false)), (some 49), (.faddr 0 (.t 1))⟩, ⟨(some (41, false)), (some 50), (.ld false 1 (.t 49))⟩, ⟨(some (41, false)), (some 51), (.mv (.t 3))⟩, ⟨(some (41, false)), (some 52), (.iaddr 18 (.t 50) (.t 51))⟩, ⟨(some (41, false)), (some 53), (.faddr 2 (.t 52))⟩, ⟨(some (41, false)), (some 54), (.ld false 1 (.t 53))⟩, ⟨(some (41, false)), (some 55), (.bin .gtr .none (.t 48) (.t 54))⟩, ⟨(some (26, true)), (some 56), (.pick (.t 41) (.k (.v (.bool true))) (.t 55))⟩, ⟨(some (23, false)), (some 57), (.pick (.t 26) (.t 56) (.k (.v (.bool false))))⟩, ⟨none, (some 58), (.pick (.t 23) (.k (.v (.bool true))) (.t 57))⟩]
def p_s_l16Good_5 : List (List Nat) := [[], [0], [], [0, 1, 2], [0, 1, 2, 3], [0, 1, 2, 3, 4], [0, 1, 2, 3, 4, 5], [0, 1, 2, 3, 4, 5, 6], [0, 1, 2, 3, 4, 5, 6, 7], [0, 1, 2, 3, 4, 5, 6, 7, 8], [0, 1, 2, 3, 4, 5, 6, 7, 8, 9], [0, 1, 2, 3, 4, 5, 6, 7, 8, 9, 10], [0, 1, 2, 3, 4, 5, 6, 7, 8, 9, 10, 11], [0, 1, 2, 3, 4, 5, 6, 7, 8, 9, 10], [0, 1, 2, 3, 4, 5, 6, 7, 8, 9, 10, 13], [0, 1, 2, 3, 4, 5, 6, 7, 8, 9, 10, 11, 12, 13, 14], [0, 1, 2, 3, 4, 5, 6, 7, 8, 9, 10, 11, 12, 13, 14, 15], [0, 1, 2, 3, 4, 5, 6, 7, 8, 9, 10, 11, 12, 13, 14, 15, 16], [0, 1, 2, 3, 4, 5, 6, 7, 8, 9, 10], [0, 1, 2, 3, 4, 5, 6, 7, 8, 9, 10, 18], [0, 1, 2, 3, 4, 5, 6, 7, 8, 9, 10], [0, 1, 2, 3, 4, 5, 6, 7, 8, 9, 10, 18, 19, 20], [0, 1, 2, 3, 4, 5, 6, 7, 8, 9, 10, 18, 19, 20, 21], [0, 1, 2, 3, 4, 5, 6, 7, 8, 9, 10, 18, 19, 20, 21, 22], [0, 1, 2, 3, 4, 5, 6, 7, 8, 9, 10, 11, 12, 13, 14, 15, 16, 17, 18, 19, 20, 21, 22, 23], [0, 1, 2, 3, 4, 5, 6, 7, 8, 9, 10, 11, 12, 13, 14, 15, 16, 17, 18, 19, 20, 21, 22, 23, 24], [0, 1, 2, 3, 4, 5, 6, 7, 8, 9, 10, 11, 12, 13, 14, 15, 16, 17, 18, 19, 20, 21, 22, 23, 24, 25], [0, 1, 2, 3, 4, 5, 6, 7, 8, 9, 10, 11, 12, 13, 14, 15, 16, 17, 18, 19, 20, 21, 22, 23, 24, 25, 26], [0, 1, 2, 3, 4, 5, 6, 7, 8, 9, 10, 11, 12, 13, 14, 15, 16, 17, 18, 19, 20, 21, 22, 23, 24, 25], [0, 1, 2, 3, 4, 5, 6, 7, 8, 9, 10, 11, 12, 13, 14, 15, 16, 17, 18, 19, 20, 21, 22, 23, 24, 25, 28], [0, 1, 2, 3, 4, 5, 6, 7, 8, 9, 10, 11, 12, 13, 14, 15, 16, 17, 18, 19, 20, 21, 22, 23, 24, 25, 26, 27, 28, 29], [0, 1, 2, 3, 4, 5, 6, 7, 8, 9, 10, 11, 12, 13, 14, 15, 16, 17, 18, 19, 20, 21, 22, 23, 24, 25, 26, 27, 28, 29, 30], [0, 1, 2, 3, 4, 5, 6, 7, 8, 9, 10, 11, 12, 13, 14, 15, 16, 17, 18, 19, 20, 21, 22, 23, 24, 25, 26, 27, 28, 29, 30, 31], [0, 1, 2, 3, 4, 5, 6, 7, 8, 9, 10, 11, 12, 13, 14, 15, 16, 17, 18, 19, 20, 21, 22, 23, 24, 25], [0, 1, 2, 3, 4, 5, 6, 7, 8, 9, 10, 11, 12, 13, 14, 15, 16, 17, 18, 19, 20, 21, 22, 23, 24, 25, 33], [0, 1, 2, 3, 4, 5, 6, 7, 8, 9, 10, 11, 12, 13, 14, 15, 16, 17, 18, 19, 20, 21, 22, 23, 24, 25], [0, 1, 2, 3, 4, 5, 6, 7, 8, 9, 10, 11, 12, 13, 14, 15, 16, 17, 18, 19, 20, 21, 22, 23, 24, 25, 33, 34, 35], [0, 1, 2, 3, 4, 5, 6, 7, 8, 9, 10, 11, 12, 13, 14, 15, 16, 17, 18, 19, 20, 21, 22, 23, 24, 25, 33, 34, 35, 36], [0, 1, 2, 3, 4, 5, 6, 7, 8, 9, 10, 11, 12, 13, 14, 15, 16, 17, 18, 19, 20, 21, 22, 23, 24, 25, 33, 34, 35, 36, 37], [0, 1, 2, 3, 4, 5, 6, 7, 8, 9, 10, 11, 12, 13, 14, 15, 16, 17, 18, 19, 20, 21, 22, 23, 24, 25, 26, 27, 28, 29, 30, 31, 32, 33, 34, 35, 36, 37, 38], [0, 1, 2, 3, 4, 5, 6, 7, 8, 9, 10, 11, 12, 13, 14, 15, 16, 17, 18, 19, 20, 21, 22, 23, 24, 25, 26, 27, 28, 29, 30, 31, 32, 33, 34, 35, 36, 37, 38, 39], [0, 1, 2, 3, 4, 5, 6, 7, 8, 9, 10, 11, 12, 13, 14, 15, 16, 17, 18, 19, 20, 21, 22, 23, 24, 25, 26, 27, 28, 29, 30, 31, 32, 33, 34, 35, 36, 37, 38, 39, 40], [0, 1, 2, 3, 4, 5, 6, 7, 8, 9, 10, 11, 12, 13, 14, 15, 16, 17, 18, 19, 20, 21, 22, 23, 24, 25, 26, 27, 28, 29, 30, 31, 32, 33, 34, 35, 36, 37, 38, 39, 40, 41]]
def r_s_l16Good_6 : List CO := [⟨none, (some 2), (.mv (.k (.v (.bool false))))⟩]
def r_s_l16Good_7 : List CO := [⟨none, (some 4), (.mv (.k (.v (.int .i64 (0)))))⟩]
def r_s_l16Good_8 : List CO := [⟨none, (some 59), (.mv (.t 4))⟩, ⟨none, (some 60), (.mv (.t 3))⟩, ⟨none, (some 61), (.bin .lss .none (.t 59) (.t 60))⟩]
def r_s_l16Good_9 : List CO := [⟨none, (some 64), (.faddr 0 (.t 1))⟩, ⟨none, (some 65), (.ld false 1 (.t 64))⟩, ⟨none, (some 66), (.mv (.t 4))⟩, ⟨none, (some 67), (.iaddr 18 (.t 65) (.t 66))⟩, ⟨none, (some 68), (.faddr 3 (.t 67))⟩, ⟨none, (some 69), (.ld true 15 (.t 68))⟩, ⟨none, (some 70), (.faddr 0 (.t 1))⟩, ⟨none, (some 71), (.ld false 1 (.t 70))⟩, ⟨none, (some 72), (.mv (.t 3))⟩, ⟨none, (some 73), (.iaddr 18 (.t 71) (.t 72))⟩, ⟨none, (some 74), (.faddr 3 (.t 73))⟩, ⟨none, (some 75), (.ld true 15 (.t 74))⟩, ⟨none, (some 76), (.call n_s_l15Conflict [(.t 69), (.t 75)])⟩]
def p_s_l16Good_9 : List (List Nat) := [[], [0], [], [0, 1, 2], [0, 1, 2, 3], [0, 1, 2, 3, 4], [], [6], [], [6, 7, 8], [6, 7, 8, 9], [6, 7, 8, 9, 10], [0, 1, 2, 3, 4, 5, 6, 7, 8, 9, 10, 11]]
def r_s_l16Good_10 : List CO := [⟨none, (some 2), (.mv (.k (.v (.bool false))))⟩]
def r_s_l16Good_11 : List CO := [⟨none, (some 62), (.mv (.t 4))⟩, ⟨none, (some 63), (.bin .add .none (.t 62) (.k (.v (.int .i64 (1)))))⟩, ⟨none, (some 4), (.mv (.t 63))⟩]
def l_s_l16Good_12 : C := (.seq (.seq (.reg r_s_l16Good_8 [1, 3, 4, 61]) (.cond (.t 61) .skip (.exit 2))) (.seq (.block 3 (.seq (.regD r_s_l16Good_9 p_s_l16Good_9 [1, 3, 4, 76]) (.cond (.t 76) (.seq (.reg r_s_l16Good_10 [2]) .ret) .skip))) (.reg r_s_l16Good_11 [1, 3, 4])))
def r_s_l16Good_13 : List CO := [⟨none, (some 14), (.mv (.t 3))⟩, ⟨none, (some 15), (.bin .add .none (.t 14) (.k (.v (.int .i64 (1)))))⟩, ⟨none, (some 3), (.mv (.t 15))⟩]
def l_s_l16Good_14 : C := (.seq (.seq (.reg r_s_l16Good_4 [1, 3, 13]) (.cond (.t 13) .skip (.exit 0))) (.seq (.block 1 (.seq (.seq (.regD r_s_l16Good_5 p_s_l16Good_5 [1, 3, 58]) (.cond (.t 58) (.seq (.reg r_s_l16Good_6 [2]) .ret) .skip)) (.seq (.reg r_s_l16Good_7 [1, 3, 4]) (.block 2 (.loop l_s_l16Good_12))))) (.reg r_s_l16Good_13 [1, 3])))
def r_s_l16Good_15 : List CO := [⟨none, (some 2), (.mv (.k (.v (.bool true))))⟩]
/-- loop.example/g00884/spec.l16Good -/
def c_s_l16Good : C := (.seq (.reg r_s_l16Good_0 [1]) (.seq (.seq (.reg r_s_l16Good_1 [1, 8]) (.cond (.t 8) (.seq (.reg r_s_l16Good_2 [2]) .ret) .skip)) (.seq (.seq (.reg r_s_l16Good_3 [1, 3]) (.block 0 (.loop l_s_l16Good_14))) (.seq (.reg r_s_l16Good_15 [2]) .ret))))
def k_s_l16Good : Nat → List Nat
  | 0 => [1]
  | 1 => [1, 8]
  | 2 => [2]
  | 3 => [1, 3]
  | 4 => [1, 3, 13]
  | 6 => [1, 3, 58]
  | 7 => [2]
  | 8 => [1, 3, 4]
  | 9 => [1, 3, 4, 61]
  | 11 => [1, 3, 4, 76]
  | 12 => [2]
  | 10 => [1, 3, 4]
  | 5 => [1, 3]
  | 13 => [2]
  | _ => []
theorem fn_s_l16Good : FnC Tryz.prog n_s_l16Good c_s_l16Good [(.tmp 2)] 77 :=
  ⟨Tryz.f52, _, k_s_l16Good, Tryz.func52, rfl, by kernel_rfl, by kernel_rfl, by kernel_rfl, rfl⟩
def r_slices_IndexFunc_i_Grant_i_Grant_0 : List CO := [⟨none, (some 4), (.mv (.k (.v (.int .i64 (0)))))⟩]
def r_slices_IndexFunc_i_Grant_i_Grant_1 : List CO := [⟨none, (some 6), (.mv (.t 0))⟩, ⟨none, (some 7), (.len false (.t 6))⟩, ⟨none, (some 8), (.mv (.k (.v (.int .i64 (0)))))⟩]
def r_slices_IndexFunc_i_Grant_i_Grant_2 : List CO := [⟨none, (some 9), (.bin .lss .none (.t 8) (.t 7))⟩]
def r_slices_IndexFunc_i_Grant_i_Grant_3 : List CO := [⟨none, (some 10), (.mv (.t 8))⟩, ⟨none, (some 5), (.mv (.t 10))⟩]
def r_slices_IndexFunc_i_Grant_i_Grant_4 : List CO := [⟨none, (some 11), (.mv (.t 1))⟩, ⟨none, (some 12), (.mv (.t 0))⟩, ⟨none, (some 13), (.mv (.t 5))⟩, ⟨none, (some 14), (.iaddr 18 (.t 12) (.t 13))⟩, ⟨none, (some 15), (.ld true 18 (.t 14))⟩, ⟨none, (some 16), (.callv (.t 11) [(.t 15)])⟩]
def r_slices_IndexFunc_i_Grant_i_Grant_5 : List CO := [⟨none, (some 17), (.mv (.t 5))⟩, ⟨none, (some 4), (.mv (.t 17))⟩]
def r_slices_IndexFunc_i_Grant_i_Grant_6 : List CO := [⟨none, (some 18), (.bin .add .none (.t 8) (.k (.v (.int .i64 (1)))))⟩, ⟨none, (some 8), (.mv (.t 18))⟩]
def l_slices_IndexFunc_i_Grant_i_Grant_7 : C := (.seq (.reg r_slices_IndexFunc_i_Grant_i_Grant_2 [0, 1, 7, 8, 9]) (.seq (.cond (.t 9) .skip (.exit 0)) (.seq (.block 1 (.seq (.reg r_slices_IndexFunc_i_Grant_i_Grant_3 [0, 1, 5, 7, 8]) (.seq (.reg r_slices_IndexFunc_i_Grant_i_Grant_4 [0, 1, 5, 7, 8, 16]) (.cond (.t 16) (.seq (.reg r_slices_IndexFunc_i_Grant_i_Grant_5 [4]) .ret) .skip)))) (.reg r_slices_IndexFunc_i_Grant_i_Grant_6 [0, 1, 7, 8]))))
def r_slices_IndexFunc_i_Grant_i_Grant_8 : List CO := [⟨none, (some 4), (.mv (.k (.v (.int .i64 (-1)))))⟩]
/-- slices.IndexFunc[[]loop.example/g00884/impl.Grant,loop.example/g00884/impl.Grant] -/
def c_slices_IndexFunc_i_Grant_i_Grant : C := (.seq (.reg r_slices_IndexFunc_i_Grant_i_Grant_0 [0, 1]) (.seq (.seq (.reg r_slices_IndexFunc_i_Grant_i_Grant_1 [0, 1, 7, 8]) (.block 0 (.loop l_slices_IndexFunc_i_Grant_i_Grant_7))) (.seq (.reg r_slices_IndexFunc_i_Grant_i_Grant_8 [4]) .ret)))
def k_slices_IndexFunc_i_Grant_i_Grant : Nat → List Nat
  | 0 => [0, 1]
  | 1 => [0, 1, 7, 8]
  | 2 => [0, 1, 7, 8, 9]
  | 3 => [0, 1, 5, 7, 8]
  | 4 => [0, 1, 5, 7, 8, 16]
  | 5 => [4]
  | 6 => [0, 1, 7, 8]
  | 7 => [4]
  | _ => []
theorem fn_slices_IndexFunc_i_Grant_i_Grant : FnC Tryz.prog n_slices_IndexFunc_i_Grant_i_Grant c_slices_IndexFunc_i_Grant_i_Grant [(.tmp 4)] 19 :=
  ⟨Tryz.f143, _, k_slices_IndexFunc_i_Grant_i_Grant, Tryz.func143, rfl, by kernel_rfl, by kernel_rfl, by kernel_rfl, rfl⟩
def r_slices_ContainsFunc_i_Grant_i_Grant_0 : List CO := [⟨none, (some 4), (.mv (.k (.v (.bool false))))⟩]
def r_slices_ContainsFunc_i_Grant_i_Grant_1 : List CO := [⟨none, (some 5), (.mv (.t 0))⟩, ⟨none, (some 6), (.mv (.t 1))⟩, ⟨none, (some 7), (.call n_slices_IndexFunc_i_Grant_i_Grant [(.t 5), (.t 6)])⟩, ⟨none, (some 8), (.bin .geq .none (.t 7) (.k (.v (.int .i64 (0)))))⟩, ⟨none, (some 4), (.mv (.t 8))⟩]
/-- slices.ContainsFunc[[]loop.example/g00884/impl.Grant,loop.example/g00884/impl.Grant] -/
def c_slices_ContainsFunc_i_Grant_i_Grant : C := (.seq (.reg r_slices_ContainsFunc_i_Grant_i_Grant_0 [0, 1]) (.seq (.reg r_slices_ContainsFunc_i_Grant_i_Grant_1 [4]) .ret))
def k_slices_ContainsFunc_i_Grant_i_Grant : Nat → List Nat
  | 0 => [0, 1]
  | 1 => [4]
  | _ => []
theorem fn_slices_ContainsFunc_i_Grant_i_Grant : FnC Tryz.prog n_slices_ContainsFunc_i_Grant_i_Grant c_slices_ContainsFunc_i_Grant_i_Grant [(.tmp 4)] 9 :=
  ⟨Tryz.f98, _, k_slices_ContainsFunc_i_Grant_i_Grant, Tryz.func98, rfl, by kernel_rfl, by kernel_rfl, by kernel_rfl, rfl⟩
def r_i_IsValidRegister_1_0 : List CO := [⟨none, (some 2), (.box 18 (.t 0))⟩, ⟨none, (some 3), (.mv (.k (.v (.bool false))))⟩]
def r_i_IsValidRegister_1_1 : List CO := [⟨none, (some 4), (.faddr 3 (.t 2))⟩, ⟨none, (some 5), (.ld true 15 (.t 4))⟩, ⟨none, (some 6), (.faddr 3 (.t 1))⟩, ⟨none, (some 7), (.ld true 15 (.t 6))⟩, ⟨none, (some 8), (.call n_i_conflict [(.t 5), (.t 7)])⟩, ⟨none, (some 3), (.mv (.t 8))⟩]
/-- loop.example/g00884/impl.IsValidRegister$1 -/
def c_i_IsValidRegister_1 : C := (.seq (.reg r_i_IsValidRegister_1_0 [1, 2]) (.seq (.reg r_i_IsValidRegister_1_1 [3]) .ret))
def k_i_IsValidRegister_1 : Nat → List Nat
  | 0 => [1, 2]
  | 1 => [3]
  | _ => []
theorem fn_i_IsValidRegister_1 : FnC Tryz.prog n_i_IsValidRegister_1 c_i_IsValidRegister_1 [(.tmp 3)] 9 :=
  ⟨Tryz.f99, _, k_i_IsValidRegister_1, Tryz.func99, rfl, by kernel_rfl, by kernel_rfl, by kernel_rfl, rfl⟩
def r_i_IsValidRegister_0 : List CO := [⟨none, (some 1), (.box 1 (.t 0))⟩, ⟨none, (some 2), (.mv (.k (.v (.bool false))))⟩]
def r_i_IsValidRegister_1 : List CO := [⟨none, (some 5), (.faddr 0 (.t 1))⟩, ⟨none, (some 6), (.ld false 1 (.t 5))⟩, ⟨none, (some 7), (.len false (.t 6))⟩, ⟨none, (some 8), (.mv (.k (.v (.int .i64 (0)))))⟩]
def r_i_IsValidRegister_2 : List CO := [⟨none, (some 9), (.bin .lss .none (.t 8) (.t 7))⟩]
def r_i_IsValidRegister_3 : List CO := [⟨none, (some 10), (.mv (.t 8))⟩, ⟨none, (some 11), (.iaddr 18 (.t 6) (.t 8))⟩, ⟨none, (some 12), (.ld true 18 (.t 11))⟩, ⟨none, (some 4), (.box 18 (.k (.agg [(.v (.int .i64 (0))), (.v (.string (bs []))), (.v (.int .i64 (0))), (.v (.int .i64 (0))), (.v (.int .i64 (0))), (.v (.int .i64 (0))), (.v (.int .i64 (0))), (.v (.int .i64 (0))), (.v (.int .i64 (0))), (.v (.int .i64 (0))), (.v (.int .i64 (0))), (.v (.int .i64 (0))), (.v (.int .i64 (0))), (.v (.int .i64 (0))), (.v (.int .i64 (0))), (.v (.int .i64 (0))), (.v (.int .i64 (0))), (.v (.int .i64 (0)))])))⟩, ⟨none, (some 3), (.mv (.t 10))⟩, ⟨none, none, (.st 18 (.t 4) (.t 12))⟩]
def r_i_IsValidRegister_4 : List CO := [⟨none, (some 13), (.faddr 0 (.t 4))⟩, ⟨none, (some 14), (.ld false 1 (.t 13))⟩, ⟨none, (some 15), (.call n_i_inside [(.t 14), (.k (.v (.int .i64 (1)))), (.k (.v (.int .i64 (999))))])⟩, ⟨none, (some 16), (.un .not (.t 15))⟩, ⟨none, (some 17), (.mv (.t 16))⟩, ⟨(some (17, false)), (some 18), (.faddr 1 (.t 4))⟩, ⟨(some (17, false)), (some 19), (.ld false 1 (.t 18))⟩, ⟨(some (17, false)), (some 20), (.call n_i_isName [(.t 19)])⟩, ⟨(some (17, false)), (some 21), (.un .not (.t 20))⟩, ⟨none, (some 22), (.pick (.t 17) (.k (.v (.bool true))) (.t 21))⟩, ⟨none, (some 23), (.mv (.t 22))⟩, ⟨(some (23, false)), (some 24), (.faddr 2 (.t 4))⟩, ⟨(some (23, false)), (some 25), (.ld false 1 (.t 24))⟩, ⟨(some (23, false)), (some 26), (.call n_i_inside [(.t 25), (.k (.v (.int .i64 (1000)))), (.k (.v (.int .i64 (2999))))])⟩, ⟨(some (23, false)), (some 27), (.un .not (.t 26))⟩, ⟨none, (some 28), (.pick (.t 23) (.k (.v (.bool true))) (.t 27))⟩, ⟨none, (some 29), (.mv (.t 28))⟩, ⟨(some (29, false)), (some 30), (.faddr 3 (.t 4))⟩, ⟨(some (29, false)), (some 31), (.ld true 15 (.t 30))⟩, ⟨(some (29, false)), (some 32), (.call n_i_IsValidArms [(.t 31)])⟩, ⟨(some (29, false)), (some 33), (.un .not (.t 32))⟩, ⟨none, (some 34), (.pick (.t 29) (.k (.v (.bool true))) (.t 33))⟩]
def r_i_IsValidRegister_5 : List CO := [⟨none, (some 2), (.mv (.k (.v (.bool false))))⟩]
def r_i_IsValidRegister_6 : List CO := [⟨none, (some 35), (.mv (.t 3))⟩, ⟨none, (some 36), (.bin .gtr .none (.t 35) (.k (.v (.int .i64 (0)))))⟩, ⟨none, (some 37), (.mv (.t 36))⟩, ⟨(some (37, true)), (some 38), (.faddr 0 (.t 1))⟩, ⟨(some (37, true)), (some 39), (.ld false 1 (.t 38))⟩, ⟨(some (37, true)), (some 40), (.mv (.t 3))⟩, ⟨(some (37, true)), (some 41), (.bin .sub .none (.t 40) (.k (.v (.int .i64 (1)))))⟩, ⟨(some (37, true)), (some 42), (.iaddr 18 (.t 39) (.t 41))⟩, ⟨(some (37, true)), (some 43), (.faddr 0 (.t 42))⟩, ⟨(some (37, true)), (some 44), (.ld false 1 (.t 43))⟩, ⟨(some (37, true)), (some 45), (.faddr 0 (.t 4))⟩, ⟨(some (37, true)), (some 46), (.ld false 1 (.t 45))⟩, ⟨(some (37, true)), (some 47), (.bin .geq .none (.t 44) (.t 46))⟩, ⟨(some (37, true)), (some 48), (.mv (.t 47))⟩, ⟨(some (48, false)), (some 49), (.faddr 0 (.t 1))⟩, ⟨(some (48, false)), (some 50), (.ld false 1 (.t 49))⟩, ⟨(some (48, false)), (some 51), (.mv (.t 3))⟩, ⟨(some (48, false)), (some 52), (.bin .sub .none (.t 51) (.k (.v (.int .i64 (1)))))⟩, ⟨(some (48, false)), (some 53), (.iaddr 18 (.t 50) (.t 52))⟩, ⟨(some (48, false)), (some 54), (.faddr 2 (.t 53))⟩, ⟨(some (48, false)), (some 55), (.ld false 1 (.t 54))⟩, ⟨(some (48, false)), (some 56), (.faddr 2 (.t 4))⟩, ⟨(some (48, false)), (some 57), (.ld false 1 (.t 56))⟩, ⟨(some (48, false)), (some 58), (.bin .gtr .none (.t 55) (.t 57))⟩, ⟨(some (37, true)), (some 59), (.pick (.t 48) (.k (.v (.bool true))) (.t 58))⟩, ⟨none, (some 60), (.pick (.t 37) (.t 59) (.k (.v (.bool false))))⟩]
def p_i_IsValidRegister_6 : List (List Nat) := [[], [0], [0, 1], [0, 1, 2], [0, 1, 2, 3], [0, 1, 2], [0, 1, 2, 5], [0, 1, 2, 3, 4, 5, 6], [0, 1, 2, 3, 4, 5, 6, 7], [0, 1, 2, 3, 4, 5, 6, 7, 8], [0, 1, 2], [0, 1, 2, 10], [0, 1, 2, 3, 4, 5, 6, 7, 8, 9, 10, 11], [0, 1, 2, 3, 4, 5, 6, 7, 8, 9, 10, 11, 12], [0, 1, 2, 3, 4, 5, 6, 7, 8, 9, 10, 11, 12, 13], [0, 1, 2, 3, 4, 5, 6, 7, 8, 9, 10, 11, 12, 13, 14], [0, 1, 2, 3, 4, 5, 6, 7, 8, 9, 10, 11, 12, 13], [0, 1, 2, 3, 4, 5, 6, 7, 8, 9, 10, 11, 12, 13, 16], [0, 1, 2, 3, 4, 5, 6, 7, 8, 9, 10, 11, 12, 13, 14, 15, 16, 17], [0, 1, 2, 3, 4, 5, 6, 7, 8, 9, 10, 11, 12, 13, 14, 15, 16, 17, 18], [0, 1, 2, 3, 4, 5, 6, 7, 8, 9, 10, 11, 12, 13, 14, 15, 16, 17, 18, 19], [0, 1, 2, 3, 4, 5, 6, 7, 8, 9, 10, 11, 12, 13], [0, 1, 2, 3, 4, 5, 6, 7, 8, 9, 10, 11, 12, 13, 21], [0, 1, 2, 3, 4, 5, 6, 7, 8, 9, 10, 11, 12, 13, 14, 15, 16, 17, 18, 19, 20, 21, 22], [0, 1, 2, 3, 4, 5, 6, 7, 8, 9, 10, 11, 12, 13, 14, 15, 16, 17, 18, 19, 20, 21, 22, 23], [0, 1, 2, 3, 4, 5, 6, 7, 8, 9, 10, 11, 12, 13, 14, 15, 16, 17, 18, 19, 20, 21, 22, 23, 24]]
def r_i_IsValidRegister_7 : List CO := [⟨none, (some 2), (.mv (.k (.v (.bool false))))⟩]
def r_i_IsValidRegister_8 : List CO := [⟨none, (some 61), (.faddr 0 (.t 1))⟩, ⟨none, (some 62), (.ld false 1 (.t 61))⟩, ⟨none, (some 63), (.mv (.t 3))⟩, ⟨none, (some 64), (.slc (some 18) (.t 62) none (some (.t 63)))⟩, ⟨none, (some 65), (.clo n_i_IsValidRegister_1 [(.t 4)])⟩, ⟨none, (some 66), (.call n_slices_ContainsFunc_i_Grant_i_Grant [(.t 64), (.t 65)])⟩]
def r_i_IsValidRegister_9 : List CO := [⟨none, (some 2), (.mv (.k (.v (.bool false))))⟩]
def r_i_IsValidRegister_10 : List CO := [⟨none, (some 67), (.bin .add .none (.t 8) (.k (.v (.int .i64 (1)))))⟩, ⟨none, (some 8), (.mv (.t 67))⟩]
def l_i_IsValidRegister_11 : C := (.seq (.reg r_i_IsValidRegister_2 [1, 6, 7, 8, 9]) (.seq (.cond (.t 9) .skip (.exit 0)) (.seq (.block 1 (.seq (.reg r_i_IsValidRegister_3 [1, 3, 4, 6, 7, 8]) (.seq (.seq (.reg r_i_IsValidRegister_4 [1, 3, 4, 6, 7, 8, 34]) (.cond (.t 34) (.seq (.reg r_i_IsValidRegister_5 [2]) .ret) .skip)) (.seq (.seq (.regD r_i_IsValidRegister_6 p_i_IsValidRegister_6 [1, 3, 4, 6, 7, 8, 60]) (.cond (.t 60) (.seq (.reg r_i_IsValidRegister_7 [2]) .ret) .skip)) (.seq (.reg r_i_IsValidRegister_8 [1, 6, 7, 8, 66]) (.cond (.t 66) (.seq (.reg r_i_IsValidRegister_9 [2]) .ret) .skip)))))) (.reg r_i_IsValidRegister_10 [1, 6, 7, 8]))))
def r_i_IsValidRegister_12 : List CO := [⟨none, (some 68), (.faddr 0 (.t 1))⟩, ⟨none, (some 69), (.ld false 1 (.t 68))⟩, ⟨none, (some 70), (.len false (.t 69))⟩, ⟨none, (some 71), (.bin .leq .none (.t 70) (.k (.v (.int .i64 (12)))))⟩, ⟨none, (some 2), (.mv (.t 71))⟩]
/-- loop.example/g00884/impl.IsValidRegister -/
def c_i_IsValidRegister : C := (.seq (.reg r_i_IsValidRegister_0 [1]) (.seq (.seq (.reg r_i_IsValidRegister_1 [1, 6, 7, 8]) (.block 0 (.loop l_i_IsValidRegister_11))) (.seq (.reg r_i_IsValidRegister_12 [2]) .ret)))
def k_i_IsValidRegister : Nat → List Nat
  | 0 => [1]
  | 1 => [1, 6, 7, 8]
  | 2 => [1, 6, 7, 8, 9]
  | 3 => [1, 3, 4, 6, 7, 8]
  | 4 => [1, 3, 4, 6, 7, 8, 34]
  | 5 => [2]
  | 6 => [1, 3, 4, 6, 7, 8, 60]
  | 7 => [2]
  | 8 => [1, 6, 7, 8, 66]
  | 9 => [2]
  | 10 => [1, 6, 7, 8]
  | 11 => [2]
  | _ => []
theorem fn_i_IsValidRegister : FnC Tryz.prog n_i_IsValidRegister c_i_IsValidRegister [(.tmp 2)] 72 :=
  ⟨Tryz.f56, _, k_i_IsValidRegister, Tryz.func56, rfl, by kernel_rfl, by kernel_rfl, by kernel_rfl, rfl⟩
end Go.Proofs.YtbeoijlggphklaaGreatDoor

/- The compact code of the functions, and that it is theirs: written by a program of this claim. -/
namespace Go.Proofs.YtbeoijlggphklaaGreatDoor
open Go.Abs
set_option maxRecDepth 100000
def r_i_Field_tinctures_0 : List CO := [⟨none, (some 1), (.box 4 (.t 0))⟩, ⟨none, (some 2), (.mv (.k (.v (.slice none 0 0))))⟩]
def r_i_Field_tinctures_1 : List CO := [⟨none, (some 3), (.faddr 0 (.t 1))⟩, ⟨none, (some 4), (.ld false 1 (.t 3))⟩, ⟨none, (some 5), (.bin .eql .none (.t 4) (.k (.v (.int .i64 (0)))))⟩]
def r_i_Field_tinctures_2 : List CO := [⟨none, (some 6), (.faddr 2 (.t 1))⟩, ⟨none, (some 7), (.ld false 1 (.t 6))⟩, ⟨none, (some 8), (.bslice 1 (.v (.int .i64 (0))) 1 [(0, (.t 7))])⟩, ⟨none, (some 2), (.mv (.t 8))⟩]
def r_i_Field_tinctures_3 : List CO := [⟨none, (some 9), (.faddr 2 (.t 1))⟩, ⟨none, (some 10), (.ld false 1 (.t 9))⟩, ⟨none, (some 11), (.faddr 3 (.t 1))⟩, ⟨none, (some 12), (.ld false 1 (.t 11))⟩, ⟨none, (some 13), (.bslice 1 (.v (.int .i64 (0))) 2 [(0, (.t 10)), (1, (.t 12))])⟩, ⟨none, (some 2), (.mv (.t 13))⟩]
/-- (loop.example/g00884/impl.Field).tinctures -/
def c_i_Field_tinctures : C := (.seq (.reg r_i_Field_tinctures_0 [1]) (.seq (.seq (.reg r_i_Field_tinctures_1 [1, 5]) (.cond (.t 5) (.seq (.reg r_i_Field_tinctures_2 [2]) .ret) .skip)) (.seq (.reg r_i_Field_tinctures_3 [2]) .ret)))
def k_i_Field_tinctures : Nat → List Nat
  | 0 => [1]
  | 1 => [1, 5]
  | 2 => [2]
  | 3 => [2]
  | _ => []
theorem fn_i_Field_tinctures : FnC Tryz.prog n_i_Field_tinctures c_i_Field_tinctures [(.tmp 2)] 14 :=
  ⟨Tryz.f222, _, k_i_Field_tinctures, Tryz.func222, rfl, by kernel_rfl, by kernel_rfl, by kernel_rfl, rfl⟩
def r_s_l3Tinctures_0 : List CO := [⟨none, (some 1), (.box 4 (.t 0))⟩, ⟨none, (some 2), (.mv (.k (.v (.slice none 0 0))))⟩]
def r_s_l3Tinctures_1 : List CO := [⟨none, (some 3), (.faddr 0 (.t 1))⟩, ⟨none, (some 4), (.ld false 1 (.t 3))⟩, ⟨none, (some 5), (.bin .eql .none (.t 4) (.k (.v (.int .i64 (0)))))⟩]
def r_s_l3Tinctures_2 : List CO := [⟨none, (some 6), (.faddr 2 (.t 1))⟩, ⟨none, (some 7), (.ld false 1 (.t 6))⟩, ⟨none, (some 8), (.bslice 1 (.v (.int .i64 (0))) 1 [(0, (.t 7))])⟩, ⟨none, (some 2), (.mv (.t 8))⟩]
def r_s_l3Tinctures_3 : List CO := [⟨none, (some 9), (.faddr 2 (.t 1))⟩, ⟨none, (some 10), (.ld false 1 (.t 9))⟩, ⟨none, (some 11), (.faddr 3 (.t 1))⟩, ⟨none, (some 12), (.ld false 1 (.t 11))⟩, ⟨none, (some 13), (.bslice 1 (.v (.int .i64 (0))) 2 [(0, (.t 10)), (1, (.t 12))])⟩, ⟨none, (some 2), (.mv (.t 13))⟩]
/-- loop.example/g00884/spec.l3Tinctures -/
def c_s_l3Tinctures : C := (.seq (.reg r_s_l3Tinctures_0 [1]) (.seq (.seq (.reg r_s_l3Tinctures_1 [1, 5]) (.cond (.t 5) (.seq (.reg r_s_l3Tinctures_2 [2]) .ret) .skip)) (.seq (.reg r_s_l3Tinctures_3 [2]) .ret)))
def k_s_l3Tinctures : Nat → List Nat
  | 0 => [1]
  | 1 => [1, 5]
  | 2 => [2]
  | 3 => [2]
  | _ => []
theorem fn_s_l3Tinctures : FnC Tryz.prog n_s_l3Tinctures c_s_l3Tinctures [(.tmp 2)] 14 :=
  ⟨Tryz.f216, _, k_s_l3Tinctures, Tryz.func216, rfl, by kernel_rfl, by kernel_rfl, by kernel_rfl, rfl⟩
def r_s_l1Same_0 : List CO := [⟨none, (some 4), (.mv (.k (.v (.bool false))))⟩]
def r_s_l1Same_1 : List CO := [⟨none, (some 6), (.mv (.t 0))⟩, ⟨none, (some 7), (.len false (.t 6))⟩, ⟨none, (some 8), (.mv (.t 1))⟩, ⟨none, (some 9), (.len false (.t 8))⟩, ⟨none, (some 10), (.bin .neq .none (.t 7) (.t 9))⟩]
def r_s_l1Same_2 : List CO := [⟨none, (some 4), (.mv (.k (.v (.bool false))))⟩]
def r_s_l1Same_3 : List CO := [⟨none, (some 5), (.mv (.k (.v (.int .i64 (0)))))⟩]
def r_s_l1Same_4 : List CO := [⟨none, (some 11), (.mv (.t 5))⟩, ⟨none, (some 12), (.mv (.t 0))⟩, ⟨none, (some 13), (.len false (.t 12))⟩, ⟨none, (some 14), (.bin .lss .none (.t 11) (.t 13))⟩]
def r_s_l1Same_5 : List CO := [⟨none, (some 17), (.mv (.t 0))⟩, ⟨none, (some 18), (.mv (.t 5))⟩, ⟨none, (some 19), (.iaddr 1 (.t 17) (.t 18))⟩, ⟨none, (some 20), (.ld false 1 (.t 19))⟩, ⟨none, (some 21), (.mv (.t 1))⟩, ⟨none, (some 22), (.mv (.t 5))⟩, ⟨none, (some 23), (.iaddr 1 (.t 21) (.t 22))⟩, ⟨none, (some 24), (.ld false 1 (.t 23))⟩, ⟨none, (some 25), (.bin .neq .none (.t 20) (.t 24))⟩]
def p_s_l1Same_5 : List (List Nat) := [[], [], [0, 1], [0, 1, 2], [], [], [4, 5], [4, 5, 6], [0, 1, 2, 3, 4, 5, 6, 7]]
def r_s_l1Same_6 : List CO := [⟨none, (some 4), (.mv (.k (.v (.bool false))))⟩]
def r_s_l1Same_7 : List CO := [⟨none, (some 15), (.mv (.t 5))⟩, ⟨none, (some 16), (.bin .add .none (.t 15) (.k (.v (.int .i64 (1)))))⟩, ⟨none, (some 5), (.mv (.t 16))⟩]
def l_s_l1Same_8 : C := (.seq (.seq (.reg r_s_l1Same_4 [0, 1, 5, 14]) (.cond (.t 14) .skip (.exit 0))) (.seq (.block 1 (.seq (.regD r_s_l1Same_5 p_s_l1Same_5 [0, 1, 5, 25]) (.cond (.t 25) (.seq (.reg r_s_l1Same_6 [4]) .ret) .skip))) (.reg r_s_l1Same_7 [0, 1, 5])))
def r_s_l1Same_9 : List CO := [⟨none, (some 4), (.mv (.k (.v (.bool true))))⟩]
/-- loop.example/g00884/spec.l1Same -/
def c_s_l1Same : C := (.seq (.reg r_s_l1Same_0 [0, 1]) (.seq (.seq (.reg r_s_l1Same_1 [0, 1, 10]) (.cond (.t 10) (.seq (.reg r_s_l1Same_2 [4]) .ret) .skip)) (.seq (.seq (.reg r_s_l1Same_3 [0, 1, 5]) (.block 0 (.loop l_s_l1Same_8))) (.seq (.reg r_s_l1Same_9 [4]) .ret))))
def k_s_l1Same : Nat → List Nat
  | 0 => [0, 1]
  | 1 => [0, 1, 10]
  | 2 => [4]
  | 3 => [0, 1, 5]
  | 4 => [0, 1, 5, 14]
  | 6 => [0, 1, 5, 25]
  | 7 => [4]
  | 5 => [0, 1, 5]
  | 8 => [4]
  | _ => []
theorem fn_s_l1Same : FnC Tryz.prog n_s_l1Same c_s_l1Same [(.tmp 4)] 26 :=
  ⟨Tryz.f215, _, k_s_l1Same, Tryz.func215, rfl, by kernel_rfl, by kernel_rfl, by kernel_rfl, rfl⟩
def r_slices_Equal_int_int_0 : List CO := [⟨none, (some 4), (.mv (.k (.v (.bool false))))⟩]
def r_slices_Equal_int_int_1 : List CO := [⟨none, (some 6), (.mv (.t 0))⟩, ⟨none, (some 7), (.len false (.t 6))⟩, ⟨none, (some 8), (.mv (.t 1))⟩, ⟨none, (some 9), (.len false (.t 8))⟩, ⟨none, (some 10), (.bin .neq .none (.t 7) (.t 9))⟩]
def r_slices_Equal_int_int_2 : List CO := [⟨none, (some 4), (.mv (.k (.v (.bool false))))⟩]
def r_slices_Equal_int_int_3 : List CO := [⟨none, (some 11), (.mv (.t 0))⟩, ⟨none, (some 12), (.len false (.t 11))⟩, ⟨none, (some 13), (.mv (.k (.v (.int .i64 (0)))))⟩]
def r_slices_Equal_int_int_4 : List CO := [⟨none, (some 14), (.bin .lss .none (.t 13) (.t 12))⟩]
def r_slices_Equal_int_int_5 : List CO := [⟨none, (some 15), (.mv (.t 13))⟩, ⟨none, (some 5), (.mv (.t 15))⟩]
def r_slices_Equal_int_int_6 : List CO := [⟨none, (some 16), (.mv (.t 0))⟩, ⟨none, (some 17), (.mv (.t 5))⟩, ⟨none, (some 18), (.iaddr 1 (.t 16) (.t 17))⟩, ⟨none, (some 19), (.ld false 1 (.t 18))⟩, ⟨none, (some 20), (.mv (.t 1))⟩, ⟨none, (some 21), (.mv (.t 5))⟩, ⟨none, (some 22), (.iaddr 1 (.t 20) (.t 21))⟩, ⟨none, (some 23), (.ld false 1 (.t 22))⟩, ⟨none, (some 24), (.bin .neq .none (.t 19) (.t 23))⟩]
def p_slices_Equal_int_int_6 : List (List Nat) := [[], [], [0, 1], [0, 1, 2], [], [], [4, 5], [4, 5, 6], [0, 1, 2, 3, 4, 5, 6, 7]]
def r_slices_Equal_int_int_7 : List CO := [⟨none, (some 4), (.mv (.k (.v (.bool false))))⟩]
def r_slices_Equal_int_int_8 : List CO := [⟨none, (some 25), (.bin .add .none (.t 13) (.k (.v (.int .i64 (1)))))⟩, ⟨none, (some 13), (.mv (.t 25))⟩]
def l_slices_Equal_int_int_9 : C := (.seq (.reg r_slices_Equal_int_int_4 [0, 1, 12, 13, 14]) (.seq (.cond (.t 14) .skip (.exit 0)) (.seq (.block 1 (.seq (.reg r_slices_Equal_int_int_5 [0, 1, 5, 12, 13]) (.seq (.regD r_slices_Equal_int_int_6 p_slices_Equal_int_int_6 [0, 1, 12, 13, 24]) (.cond (.t 24) (.seq (.reg r_slices_Equal_int_int_7 [4]) .ret) .skip)))) (.reg r_slices_Equal_int_int_8 [0, 1, 12, 13]))))
def r_slices_Equal_int_int_10 : List CO := [⟨none, (some 4), (.mv (.k (.v (.bool true))))⟩]
/-- slices.Equal[[]int,int] -/
def c_slices_Equal_int_int : C := (.seq (.reg r_slices_Equal_int_int_0 [0, 1]) (.seq (.seq (.reg r_slices_Equal_int_int_1 [0, 1, 10]) (.cond (.t 10) (.seq (.reg r_slices_Equal_int_int_2 [4]) .ret) .skip)) (.seq (.seq (.reg r_slices_Equal_int_int_3 [0, 1, 12, 13]) (.block 0 (.loop l_slices_Equal_int_int_9))) (.seq (.reg r_slices_Equal_int_int_10 [4]) .ret))))
def k_slices_Equal_int_int : Nat → List Nat
  | 0 => [0, 1]
  | 1 => [0, 1, 10]
  | 2 => [4]
  | 3 => [0, 1, 12, 13]
  | 4 => [0, 1, 12, 13, 14]
  | 5 => [0, 1, 5, 12, 13]
  | 6 => [0, 1, 12, 13, 24]
  | 7 => [4]
  | 8 => [0, 1, 12, 13]
  | 9 => [4]
  | _ => []
theorem fn_slices_Equal_int_int : FnC Tryz.prog n_slices_Equal_int_int c_slices_Equal_int_int [(.tmp 4)] 26 :=
  ⟨Tryz.f221, _, k_slices_Equal_int_int, Tryz.func221, rfl, by kernel_rfl, by kernel_rfl, by kernel_rfl, rfl⟩
def r_i_FieldDifferences_0 : List CO := [⟨none, (some 2), (.box 4 (.t 0))⟩, ⟨none, (some 3), (.box 4 (.t 1))⟩, ⟨none, (some 4), (.mv (.k (.v (.int .i64 (0)))))⟩, ⟨none, (some 5), (.mv (.k (.v (.bool false))))⟩]
def r_i_FieldDifferences_1 : List CO := [⟨none, (some 6), (.ld true 4 (.t 2))⟩, ⟨none, (some 7), (.call n_i_IsValidField [(.t 6)])⟩, ⟨none, (some 8), (.un .not (.t 7))⟩, ⟨none, (some 9), (.mv (.t 8))⟩, ⟨(some (9, false)), (some 10), (.ld true 4 (.t 3))⟩, ⟨(some (9, false)), (some 11), (.call n_i_IsValidField [(.t 10)])⟩, ⟨(some (9, false)), (some 12), (.un .not (.t 11))⟩, ⟨none, (some 13), (.pick (.t 9) (.k (.v (.bool true))) (.t 12))⟩]
def r_i_FieldDifferences_2 : List CO := [⟨none, (some 4), (.mv (.k (.v (.int .i64 (0)))))⟩, ⟨none, (some 5), (.mv (.k (.v (.bool false))))⟩]
def r_i_FieldDifferences_3 : List CO := [⟨none, (some 14), (.faddr 0 (.t 2))⟩, ⟨none, (some 15), (.ld false 1 (.t 14))⟩, ⟨none, (some 16), (.faddr 0 (.t 3))⟩, ⟨none, (some 17), (.ld false 1 (.t 16))⟩, ⟨none, (some 18), (.bin .neq .none (.t 15) (.t 17))⟩, ⟨none, (some 19), (.call n_i_number [(.t 18)])⟩, ⟨none, (some 20), (.faddr 1 (.t 2))⟩, ⟨none, (some 21), (.ld false 1 (.t 20))⟩, ⟨none, (some 22), (.faddr 1 (.t 3))⟩, ⟨none, (some 23), (.ld false 1 (.t 22))⟩, ⟨none, (some 24), (.bin .neq .none (.t 21) (.t 23))⟩, ⟨none, (some 25), (.call n_i_number [(.t 24)])⟩, ⟨none, (some 26), (.bin .add .none (.t 19) (.t 25))⟩, ⟨none, (some 27), (.ld true 4 (.t 2))⟩, ⟨none, (some 28), (.call n_i_Field_tinctures [(.t 27)])⟩, ⟨none, (some 29), (.ld true 4 (.t 3))⟩, ⟨none, (some 30), (.call n_i_Field_tinctures [(.t 29)])⟩, ⟨none, (some 31), (.call n_slices_Equal_int_int [(.t 28), (.t 30)])⟩, ⟨none, (some 32), (.un .not (.t 31))⟩, ⟨none, (some 33), (.call n_i_number [(.t 32)])⟩, ⟨none, (some 34), (.bin .add .none (.t 26) (.t 33))⟩, ⟨none, (some 4), (.mv (.t 34))⟩, ⟨none, (some 5), (.mv (.k (.v (.bool true))))⟩]
def p_i_FieldDifferences_3 : List (List Nat) := [[], [0], [], [2], [0, 1, 2, 3], [0, 1, 2, 3, 4], [], [6], [], [8], [6, 7, 8, 9], [0, 1, 2, 3, 4, 5, 6, 7, 8, 9, 10], [0, 1, 2, 3, 4, 5, 6, 7, 8, 9, 10, 11], [], [0, 1, 2, 3, 4, 5, 6, 7, 8, 9, 10, 11, 13], [], [0, 1, 2, 3, 4, 5, 6, 7, 8, 9, 10, 11, 13, 14, 15], [0, 1, 2, 3, 4, 5, 6, 7, 8, 9, 10, 11, 13, 14, 15, 16], [0, 1, 2, 3, 4, 5, 6, 7, 8, 9, 10, 11, 13, 14, 15, 16, 17], [0, 1, 2, 3, 4, 5, 6, 7, 8, 9, 10, 11, 13, 14, 15, 16, 17, 18], [0, 1, 2, 3, 4, 5, 6, 7, 8, 9, 10, 11, 12, 13, 14, 15, 16, 17, 18, 19], [0, 1, 2, 3, 4, 5, 6, 7, 8, 9, 10, 11, 12, 13, 14, 15, 16, 17, 18, 19, 20], [0, 1, 2, 3, 4, 5, 6, 7, 8, 9, 10, 11, 12, 13, 14, 15, 16, 17, 18, 19, 20, 21]]
/-- loop.example/g00884/impl.FieldDifferences -/
def c_i_FieldDifferences : C := (.seq (.reg r_i_FieldDifferences_0 [2, 3]) (.seq (.seq (.reg r_i_FieldDifferences_1 [2, 3, 13]) (.cond (.t 13) (.seq (.reg r_i_FieldDifferences_2 [4, 5]) .ret) .skip)) (.seq (.regD r_i_FieldDifferences_3 p_i_FieldDifferences_3 [4, 5]) .ret)))
def k_i_FieldDifferences : Nat → List Nat
  | 0 => [2, 3]
  | 1 => [2, 3, 13]
  | 2 => [4, 5]
  | 3 => [4, 5]
  | _ => []
theorem fn_i_FieldDifferences : FnC Tryz.prog n_i_FieldDifferences c_i_FieldDifferences [(.tmp 4), (.tmp 5)] 35 :=
  ⟨Tryz.f186, _, k_i_FieldDifferences, Tryz.func186, rfl, by kernel_rfl, by kernel_rfl, by kernel_rfl, rfl⟩
def r_s_l3Differences_0 : List CO := [⟨none, (some 2), (.box 4 (.t 0))⟩, ⟨none, (some 3), (.box 4 (.t 1))⟩, ⟨none, (some 4), (.mv (.k (.v (.int .i64 (0)))))⟩]
def r_s_l3Differences_1 : List CO := [⟨none, (some 5), (.mv (.k (.v (.int .i64 (0)))))⟩]
def r_s_l3Differences_2 : List CO := [⟨none, (some 6), (.faddr 0 (.t 2))⟩, ⟨none, (some 7), (.ld false 1 (.t 6))⟩, ⟨none, (some 8), (.faddr 0 (.t 3))⟩, ⟨none, (some 9), (.ld false 1 (.t 8))⟩, ⟨none, (some 10), (.bin .neq .none (.t 7) (.t 9))⟩]
def r_s_l3Differences_3 : List CO := [⟨none, (some 11), (.mv (.t 5))⟩, ⟨none, (some 12), (.bin .add .none (.t 11) (.k (.v (.int .i64 (1)))))⟩, ⟨none, (some 5), (.mv (.t 12))⟩]
def r_s_l3Differences_4 : List CO := [⟨none, (some 13), (.faddr 1 (.t 2))⟩, ⟨none, (some 14), (.ld false 1 (.t 13))⟩, ⟨none, (some 15), (.faddr 1 (.t 3))⟩, ⟨none, (some 16), (.ld false 1 (.t 15))⟩, ⟨none, (some 17), (.bin .neq .none (.t 14) (.t 16))⟩]
def r_s_l3Differences_5 : List CO := [⟨none, (some 18), (.mv (.t 5))⟩, ⟨none, (some 19), (.bin .add .none (.t 18) (.k (.v (.int .i64 (1)))))⟩, ⟨none, (some 5), (.mv (.t 19))⟩]
def r_s_l3Differences_6 : List CO := [⟨none, (some 20), (.ld true 4 (.t 2))⟩, ⟨none, (some 21), (.call n_s_l3Tinctures [(.t 20)])⟩, ⟨none, (some 22), (.ld true 4 (.t 3))⟩, ⟨none, (some 23), (.call n_s_l3Tinctures [(.t 22)])⟩, ⟨none, (some 24), (.call n_s_l1Same [(.t 21), (.t 23)])⟩, ⟨none, (some 25), (.un .not (.t 24))⟩]
def p_s_l3Differences_6 : List (List Nat) := [[], [0], [], [0, 1, 2], [0, 1, 2, 3], [0, 1, 2, 3, 4]]
def r_s_l3Differences_7 : List CO := [⟨none, (some 26), (.mv (.t 5))⟩, ⟨none, (some 27), (.bin .add .none (.t 26) (.k (.v (.int .i64 (1)))))⟩, ⟨none, (some 5), (.mv (.t 27))⟩]
def r_s_l3Differences_8 : List CO := [⟨none, (some 28), (.mv (.t 5))⟩, ⟨none, (some 4), (.mv (.t 28))⟩]
/-- loop.example/g00884/spec.l3Differences -/
def c_s_l3Differences : C := (.seq (.reg r_s_l3Differences_0 [2, 3]) (.seq (.reg r_s_l3Differences_1 [2, 3, 5]) (.seq (.seq (.reg r_s_l3Differences_2 [2, 3, 5, 10]) (.cond (.t 10) (.reg r_s_l3Differences_3 [2, 3, 5]) .skip)) (.seq (.seq (.reg r_s_l3Differences_4 [2, 3, 5, 17]) (.cond (.t 17) (.reg r_s_l3Differences_5 [2, 3, 5]) .skip)) (.seq (.seq (.regD r_s_l3Differences_6 p_s_l3Differences_6 [5, 25]) (.cond (.t 25) (.reg r_s_l3Differences_7 [5]) .skip)) (.seq (.reg r_s_l3Differences_8 [4]) .ret))))))
def k_s_l3Differences : Nat → List Nat
  | 0 => [2, 3]
  | 1 => [2, 3, 5]
  | 2 => [2, 3, 5, 10]
  | 3 => [2, 3, 5]
  | 4 => [2, 3, 5, 17]
  | 5 => [2, 3, 5]
  | 6 => [5, 25]
  | 7 => [5]
  | 8 => [4]
  | _ => []
theorem fn_s_l3Differences : FnC Tryz.prog n_s_l3Differences c_s_l3Differences [(.tmp 4)] 29 :=
  ⟨Tryz.f179, _, k_s_l3Differences, Tryz.func179, rfl, by kernel_rfl, by kernel_rfl, by kernel_rfl, rfl⟩
def r_i_groupDifferences_0 : List CO := [⟨none, (some 2), (.box 4 (.t 0))⟩, ⟨none, (some 3), (.box 4 (.t 1))⟩, ⟨none, (some 4), (.mv (.k (.v (.int .i64 (0)))))⟩]
def r_i_groupDifferences_1 : List CO := [⟨none, (some 6), (.ld true 4 (.t 2))⟩, ⟨none, (some 7), (.ld true 4 (.t 3))⟩, ⟨none, (some 8), (.bin .eql (.struct [EK.int, EK.int, EK.int, EK.int]) (.t 6) (.t 7))⟩]
def r_i_groupDifferences_2 : List CO := [⟨none, (some 4), (.mv (.k (.v (.int .i64 (0)))))⟩]
def r_i_groupDifferences_3 : List CO := [⟨none, (some 9), (.ld true 4 (.t 2))⟩, ⟨none, (some 10), (.build (.agg [(.v (.int .i64 (0))), (.v (.int .i64 (0))), (.v (.int .i64 (0))), (.v (.int .i64 (0)))]) [])⟩, ⟨none, (some 11), (.bin .eql (.struct [EK.int, EK.int, EK.int, EK.int]) (.t 9) (.t 10))⟩, ⟨none, (some 12), (.mv (.t 11))⟩, ⟨(some (12, false)), (some 13), (.ld true 4 (.t 3))⟩, ⟨(some (12, false)), (some 14), (.build (.agg [(.v (.int .i64 (0))), (.v (.int .i64 (0))), (.v (.int .i64 (0))), (.v (.int .i64 (0)))]) [])⟩, ⟨(some (12, false)), (some 15), (.bin .eql (.struct [EK.int, EK.int, EK.int, EK.int]) (.t 13) (.t 14))⟩, ⟨none, (some 16), (.pick (.t 12) (.k (.v (.bool true))) (.t 15))⟩]
def r_i_groupDifferences_4 : List CO := [⟨none, (some 4), (.mv (.k (.v (.int .i64 (2)))))⟩]
def r_i_groupDifferences_5 : List CO := [⟨none, (some 17), (.faddr 0 (.t 2))⟩, ⟨none, (some 18), (.ld false 1 (.t 17))⟩, ⟨none, (some 19), (.faddr 0 (.t 3))⟩, ⟨none, (some 20), (.ld false 1 (.t 19))⟩, ⟨none, (some 21), (.bin .neq .none (.t 18) (.t 20))⟩, ⟨none, (some 22), (.call n_i_number [(.t 21)])⟩, ⟨none, (some 23), (.faddr 3 (.t 2))⟩, ⟨none, (some 24), (.ld false 1 (.t 23))⟩, ⟨none, (some 25), (.faddr 3 (.t 3))⟩, ⟨none, (some 26), (.ld false 1 (.t 25))⟩, ⟨none, (some 27), (.bin .neq .none (.t 24) (.t 26))⟩, ⟨none, (some 28), (.call n_i_number [(.t 27)])⟩, ⟨none, (some 29), (.bin .add .none (.t 22) (.t 28))⟩, ⟨none, (some 5), (.mv (.t 29))⟩]
def p_i_groupDifferences_5 : List (List Nat) := [[], [0], [], [2], [0, 1, 2, 3], [0, 1, 2, 3, 4], [], [6], [], [8], [6, 7, 8, 9], [0, 1, 2, 3, 4, 5, 6, 7, 8, 9, 10], [0, 1, 2, 3, 4, 5, 6, 7, 8, 9, 10, 11], [0, 1, 2, 3, 4, 5, 6, 7, 8, 9, 10, 11, 12]]
def r_i_groupDifferences_6 : List CO := [⟨none, (some 30), (.faddr 1 (.t 2))⟩, ⟨none, (some 31), (.ld false 1 (.t 30))⟩, ⟨none, (some 32), (.faddr 1 (.t 3))⟩, ⟨none, (some 33), (.ld false 1 (.t 32))⟩, ⟨none, (some 34), (.bin .neq .none (.t 31) (.t 33))⟩]
def r_i_groupDifferences_7 : List CO := [⟨none, (some 35), (.mv (.t 5))⟩, ⟨none, (some 36), (.bin .add .none (.t 35) (.k (.v (.int .i64 (2)))))⟩, ⟨none, (some 4), (.mv (.t 36))⟩]
def r_i_groupDifferences_8 : List CO := [⟨none, (some 37), (.mv (.t 5))⟩, ⟨none, (some 38), (.faddr 2 (.t 2))⟩, ⟨none, (some 39), (.ld false 1 (.t 38))⟩, ⟨none, (some 40), (.faddr 2 (.t 3))⟩, ⟨none, (some 41), (.ld false 1 (.t 40))⟩, ⟨none, (some 42), (.bin .neq .none (.t 39) (.t 41))⟩, ⟨none, (some 43), (.call n_i_number [(.t 42)])⟩, ⟨none, (some 44), (.bin .add .none (.t 37) (.t 43))⟩, ⟨none, (some 4), (.mv (.t 44))⟩]
/-- loop.example/g00884/impl.groupDifferences -/
def c_i_groupDifferences : C := (.seq (.reg r_i_groupDifferences_0 [2, 3]) (.seq (.seq (.reg r_i_groupDifferences_1 [2, 3, 8]) (.cond (.t 8) (.seq (.reg r_i_groupDifferences_2 [4]) .ret) .skip)) (.seq (.seq (.reg r_i_groupDifferences_3 [2, 3, 16]) (.cond (.t 16) (.seq (.reg r_i_groupDifferences_4 [4]) .ret) .skip)) (.seq (.regD r_i_groupDifferences_5 p_i_groupDifferences_5 [2, 3, 5]) (.seq (.seq (.reg r_i_groupDifferences_6 [2, 3, 5, 34]) (.cond (.t 34) (.seq (.reg r_i_groupDifferences_7 [4]) .ret) .skip)) (.seq (.reg r_i_groupDifferences_8 [4]) .ret))))))
def k_i_groupDifferences : Nat → List Nat
  | 0 => [2, 3]
  | 1 => [2, 3, 8]
  | 2 => [4]
  | 3 => [2, 3, 16]
  | 4 => [4]
  | 5 => [2, 3, 5]
  | 6 => [2, 3, 5, 34]
  | 7 => [4]
  | 8 => [4]
  | _ => []
theorem fn_i_groupDifferences : FnC Tryz.prog n_i_groupDifferences c_i_groupDifferences [(.tmp 4)] 45 :=
  ⟨Tryz.f187, _, k_i_groupDifferences, Tryz.func187, rfl, by kernel_rfl, by kernel_rfl, by kernel_rfl, rfl⟩
def r_s_l4Differences_0 : List CO := [⟨none, (some 2), (.box 4 (.t 0))⟩, ⟨none, (some 3), (.box 4 (.t 1))⟩, ⟨none, (some 4), (.mv (.k (.v (.int .i64 (0)))))⟩]
def r_s_l4Differences_1 : List CO := [⟨none, (some 6), (.ld true 4 (.t 2))⟩, ⟨none, (some 7), (.call n_s_l4None [(.t 6)])⟩, ⟨none, (some 8), (.ld true 4 (.t 3))⟩, ⟨none, (some 9), (.call n_s_l4None [(.t 8)])⟩, ⟨none, (some 10), (.bin .neq .bool (.t 7) (.t 9))⟩]
def p_s_l4Differences_1 : List (List Nat) := [[], [0], [], [0, 1, 2], [0, 1, 2, 3]]
def r_s_l4Differences_2 : List CO := [⟨none, (some 4), (.mv (.k (.v (.int .i64 (2)))))⟩]
def r_s_l4Differences_3 : List CO := [⟨none, (some 5), (.mv (.k (.v (.int .i64 (0)))))⟩]
def r_s_l4Differences_4 : List CO := [⟨none, (some 11), (.faddr 0 (.t 2))⟩, ⟨none, (some 12), (.ld false 1 (.t 11))⟩, ⟨none, (some 13), (.faddr 0 (.t 3))⟩, ⟨none, (some 14), (.ld false 1 (.t 13))⟩, ⟨none, (some 15), (.bin .neq .none (.t 12) (.t 14))⟩]
def r_s_l4Differences_5 : List CO := [⟨none, (some 16), (.mv (.t 5))⟩, ⟨none, (some 17), (.bin .add .none (.t 16) (.k (.v (.int .i64 (1)))))⟩, ⟨none, (some 5), (.mv (.t 17))⟩]
def r_s_l4Differences_6 : List CO := [⟨none, (some 18), (.faddr 1 (.t 2))⟩, ⟨none, (some 19), (.ld false 1 (.t 18))⟩, ⟨none, (some 20), (.faddr 1 (.t 3))⟩, ⟨none, (some 21), (.ld false 1 (.t 20))⟩, ⟨none, (some 22), (.bin .neq .none (.t 19) (.t 21))⟩]
def r_s_l4Differences_7 : List CO := [⟨none, (some 23), (.mv (.t 5))⟩, ⟨none, (some 24), (.bin .add .none (.t 23) (.k (.v (.int .i64 (2)))))⟩, ⟨none, (some 5), (.mv (.t 24))⟩]
def r_s_l4Differences_8 : List CO := [⟨none, (some 25), (.faddr 2 (.t 2))⟩, ⟨none, (some 26), (.ld false 1 (.t 25))⟩, ⟨none, (some 27), (.faddr 2 (.t 3))⟩, ⟨none, (some 28), (.ld false 1 (.t 27))⟩, ⟨none, (some 29), (.bin .neq .none (.t 26) (.t 28))⟩]
def r_s_l4Differences_9 : List CO := [⟨none, (some 30), (.mv (.t 5))⟩, ⟨none, (some 31), (.bin .add .none (.t 30) (.k (.v (.int .i64 (1)))))⟩, ⟨none, (some 5), (.mv (.t 31))⟩]
def r_s_l4Differences_10 : List CO := [⟨none, (some 32), (.faddr 3 (.t 2))⟩, ⟨none, (some 33), (.ld false 1 (.t 32))⟩, ⟨none, (some 34), (.faddr 3 (.t 3))⟩, ⟨none, (some 35), (.ld false 1 (.t 34))⟩, ⟨none, (some 36), (.bin .neq .none (.t 33) (.t 35))⟩]
def r_s_l4Differences_11 : List CO := [⟨none, (some 37), (.mv (.t 5))⟩, ⟨none, (some 38), (.bin .add .none (.t 37) (.k (.v (.int .i64 (1)))))⟩, ⟨none, (some 5), (.mv (.t 38))⟩]
def r_s_l4Differences_12 : List CO := [⟨none, (some 39), (.mv (.t 5))⟩, ⟨none, (some 4), (.mv (.t 39))⟩]
/-- loop.example/g00884/spec.l4Differences -/
def c_s_l4Differences : C := (.seq (.reg r_s_l4Differences_0 [2, 3]) (.seq (.seq (.regD r_s_l4Differences_1 p_s_l4Differences_1 [2, 3, 10]) (.cond (.t 10) (.seq (.reg r_s_l4Differences_2 [4]) .ret) .skip)) (.seq (.reg r_s_l4Differences_3 [2, 3, 5]) (.seq (.seq (.reg r_s_l4Differences_4 [2, 3, 5, 15]) (.cond (.t 15) (.reg r_s_l4Differences_5 [2, 3, 5]) .skip)) (.seq (.seq (.reg r_s_l4Differences_6 [2, 3, 5, 22]) (.cond (.t 22) (.reg r_s_l4Differences_7 [2, 3, 5]) (.seq (.reg r_s_l4Differences_8 [2, 3, 5, 29]) (.cond (.t 29) (.reg r_s_l4Differences_9 [2, 3, 5]) .skip)))) (.seq (.seq (.reg r_s_l4Differences_10 [5, 36]) (.cond (.t 36) (.reg r_s_l4Differences_11 [5]) .skip)) (.seq (.reg r_s_l4Differences_12 [4]) .ret)))))))
def k_s_l4Differences : Nat → List Nat
  | 0 => [2, 3]
  | 1 => [2, 3, 10]
  | 2 => [4]
  | 3 => [2, 3, 5]
  | 4 => [2, 3, 5, 15]
  | 5 => [2, 3, 5]
  | 6 => [2, 3, 5, 22]
  | 7 => [2, 3, 5]
  | 8 => [2, 3, 5, 29]
  | 9 => [2, 3, 5]
  | 10 => [5, 36]
  | 11 => [5]
  | 12 => [4]
  | _ => []
theorem fn_s_l4Differences : FnC Tryz.prog n_s_l4Differences c_s_l4Differences [(.tmp 4)] 40 :=
  ⟨Tryz.f180, _, k_s_l4Differences, Tryz.func180, rfl, by kernel_rfl, by kernel_rfl, by kernel_rfl, rfl⟩
def r_i_differences_0 : List CO := [⟨none, (some 2), (.box 15 (.t 0))⟩, ⟨none, (some 3), (.box 15 (.t 1))⟩, ⟨none, (some 4), (.mv (.k (.v (.int .i64 (0)))))⟩]
def r_i_differences_1 : List CO := [⟨none, (some 8), (.faddr 0 (.t 2))⟩, ⟨none, (some 9), (.ld true 4 (.t 8))⟩, ⟨none, (some 10), (.faddr 0 (.t 3))⟩, ⟨none, (some 11), (.ld true 4 (.t 10))⟩, ⟨none, (some 12), (.call n_i_FieldDifferences [(.t 9), (.t 11)])⟩, ⟨none, (some 7), (.mv (.t 12))⟩, ⟨none, (some 13), (.ext (.t 7) 0)⟩, ⟨none, (some 14), (.ext (.t 7) 1)⟩, ⟨none, (some 5), (.mv (.t 13))⟩, ⟨none, (some 6), (.mv (.t 14))⟩]
def r_i_differences_2 : List CO := [⟨none, (some 15), (.mv (.t 5))⟩, ⟨none, (some 16), (.faddr 7 (.t 2))⟩, ⟨none, (some 17), (.ld true 4 (.t 16))⟩, ⟨none, (some 18), (.faddr 7 (.t 3))⟩, ⟨none, (some 19), (.ld true 4 (.t 18))⟩, ⟨none, (some 20), (.call n_i_groupDifferences [(.t 17), (.t 19)])⟩, ⟨none, (some 21), (.faddr 11 (.t 2))⟩, ⟨none, (some 22), (.ld true 4 (.t 21))⟩, ⟨none, (some 23), (.faddr 11 (.t 3))⟩, ⟨none, (some 24), (.ld true 4 (.t 23))⟩, ⟨none, (some 25), (.call n_i_groupDifferences [(.t 22), (.t 24)])⟩, ⟨none, (some 26), (.bin .add .none (.t 20) (.t 25))⟩, ⟨none, (some 27), (.bin .add .none (.t 15) (.t 26))⟩, ⟨none, (some 5), (.mv (.t 27))⟩]
def p_i_differences_2 : List (List Nat) := [[], [], [1], [], [3], [1, 2, 3, 4], [], [6], [], [8], [1, 2, 3, 4, 5, 6, 7, 8, 9], [1, 2, 3, 4, 5, 6, 7, 8, 9, 10], [0, 1, 2, 3, 4, 5, 6, 7, 8, 9, 10, 11], [0, 1, 2, 3, 4, 5, 6, 7, 8, 9, 10, 11, 12]]
def r_i_differences_3 : List CO := [⟨none, (some 28), (.faddr 4 (.t 2))⟩, ⟨none, (some 29), (.ld false 1 (.t 28))⟩, ⟨none, (some 30), (.faddr 4 (.t 3))⟩, ⟨none, (some 31), (.ld false 1 (.t 30))⟩, ⟨none, (some 32), (.bin .neq .none (.t 29) (.t 31))⟩]
def r_i_differences_4 : List CO := [⟨none, (some 33), (.mv (.t 5))⟩, ⟨none, (some 34), (.bin .add .none (.t 33) (.k (.v (.int .i64 (2)))))⟩, ⟨none, (some 4), (.mv (.t 34))⟩]
def r_i_differences_5 : List CO := [⟨none, (some 35), (.mv (.t 5))⟩, ⟨none, (some 36), (.faddr 5 (.t 2))⟩, ⟨none, (some 37), (.ld false 1 (.t 36))⟩, ⟨none, (some 38), (.faddr 5 (.t 3))⟩, ⟨none, (some 39), (.ld false 1 (.t 38))⟩, ⟨none, (some 40), (.bin .neq .none (.t 37) (.t 39))⟩, ⟨none, (some 41), (.call n_i_number [(.t 40)])⟩, ⟨none, (some 42), (.bin .add .none (.t 35) (.t 41))⟩, ⟨none, (some 43), (.faddr 6 (.t 2))⟩, ⟨none, (some 44), (.ld false 1 (.t 43))⟩, ⟨none, (some 45), (.faddr 6 (.t 3))⟩, ⟨none, (some 46), (.ld false 1 (.t 45))⟩, ⟨none, (some 47), (.bin .neq .none (.t 44) (.t 46))⟩, ⟨none, (some 48), (.call n_i_number [(.t 47)])⟩, ⟨none, (some 49), (.bin .add .none (.t 42) (.t 48))⟩, ⟨none, (some 4), (.mv (.t 49))⟩]
def p_i_differences_5 : List (List Nat) := [[], [], [1], [], [3], [1, 2, 3, 4], [1, 2, 3, 4, 5], [0, 1, 2, 3, 4, 5, 6], [], [8], [], [10], [8, 9, 10, 11], [1, 2, 3, 4, 5, 6, 8, 9, 10, 11, 12], [0, 1, 2, 3, 4, 5, 6, 7, 8, 9, 10, 11, 12, 13], [0, 1, 2, 3, 4, 5, 6, 7, 8, 9, 10, 11, 12, 13, 14]]
/-- loop.example/g00884/impl.differences -/
def c_i_differences : C := (.seq (.reg r_i_differences_0 [2, 3]) (.seq (.reg r_i_differences_1 [2, 3, 5]) (.seq (.regD r_i_differences_2 p_i_differences_2 [2, 3, 5]) (.seq (.seq (.reg r_i_differences_3 [2, 3, 5, 32]) (.cond (.t 32) (.seq (.reg r_i_differences_4 [4]) .ret) .skip)) (.seq (.regD r_i_differences_5 p_i_differences_5 [4]) .ret)))))
def k_i_differences : Nat → List Nat
  | 0 => [2, 3]
  | 1 => [2, 3, 5]
  | 2 => [2, 3, 5]
  | 3 => [2, 3, 5, 32]
  | 4 => [4]
  | 5 => [4]
  | _ => []
theorem fn_i_differences : FnC Tryz.prog n_i_differences c_i_differences [(.tmp 4)] 50 :=
  ⟨Tryz.f144, _, k_i_differences, Tryz.func144, rfl, by kernel_rfl, by kernel_rfl, by kernel_rfl, rfl⟩
def r_i_conflict_0 : List CO := [⟨none, (some 2), (.box 15 (.t 0))⟩, ⟨none, (some 3), (.box 15 (.t 1))⟩, ⟨none, (some 4), (.mv (.k (.v (.bool false))))⟩]
def r_i_conflict_1 : List CO := [⟨none, (some 5), (.ld true 15 (.t 2))⟩, ⟨none, (some 6), (.ld true 15 (.t 3))⟩, ⟨none, (some 7), (.call n_i_differences [(.t 5), (.t 6)])⟩, ⟨none, (some 8), (.bin .lss .none (.t 7) (.k (.v (.int .i64 (2)))))⟩, ⟨none, (some 4), (.mv (.t 8))⟩]
/-- loop.example/g00884/impl.conflict -/
def c_i_conflict : C := (.seq (.reg r_i_conflict_0 [2, 3]) (.seq (.reg r_i_conflict_1 [4]) .ret))
def k_i_conflict : Nat → List Nat
  | 0 => [2, 3]
  | 1 => [4]
  | _ => []
theorem fn_i_conflict : FnC Tryz.prog n_i_conflict c_i_conflict [(.tmp 4)] 9 :=
  ⟨Tryz.f100, _, k_i_conflict, Tryz.func100, rfl, by kernel_rfl, by kernel_rfl, by kernel_rfl, rfl⟩
def r_s_l15Count_0 : List CO := [⟨none, (some 2), (.box 15 (.t 0))⟩, ⟨none, (some 3), (.box 15 (.t 1))⟩, ⟨none, (some 4), (.mv (.k (.v (.int .i64 (0)))))⟩]
def r_s_l15Count_1 : List CO := [⟨none, (some 6), (.faddr 0 (.t 2))⟩, ⟨none, (some 7), (.ld true 4 (.t 6))⟩, ⟨none, (some 8), (.faddr 0 (.t 3))⟩, ⟨none, (some 9), (.ld true 4 (.t 8))⟩, ⟨none, (some 10), (.call n_s_l3Differences [(.t 7), (.t 9)])⟩, ⟨none, (some 11), (.faddr 7 (.t 2))⟩, ⟨none, (some 12), (.ld true 4 (.t 11))⟩, ⟨none, (some 13), (.faddr 7 (.t 3))⟩, ⟨none, (some 14), (.ld true 4 (.t 13))⟩, ⟨none, (some 15), (.call n_s_l4Differences [(.t 12), (.t 14)])⟩, ⟨none, (some 16), (.bin .add .none (.t 10) (.t 15))⟩, ⟨none, (some 17), (.faddr 11 (.t 2))⟩, ⟨none, (some 18), (.ld true 4 (.t 17))⟩, ⟨none, (some 19), (.faddr 11 (.t 3))⟩, ⟨none, (some 20), (.ld true 4 (.t 19))⟩, ⟨none, (some 21), (.call n_s_l4Differences [(.t 18), (.t 20)])⟩, ⟨none, (some 22), (.bin .add .none (.t 16) (.t 21))⟩, ⟨none, (some 5), (.mv (.t 22))⟩]
def p_s_l15Count_1 : List (List Nat) := [[], [0], [], [2], [0, 1, 2, 3], [], [5], [], [7], [0, 1, 2, 3, 4, 5, 6, 7, 8], [0, 1, 2, 3, 4, 5, 6, 7, 8, 9], [], [11], [], [13], [0, 1, 2, 3, 4, 5, 6, 7, 8, 9, 11, 12, 13, 14], [0, 1, 2, 3, 4, 5, 6, 7, 8, 9, 10, 11, 12, 13, 14, 15], [0, 1, 2, 3, 4, 5, 6, 7, 8, 9, 10, 11, 12, 13, 14, 15, 16]]
def r_s_l15Count_2 : List CO := [⟨none, (some 23), (.faddr 4 (.t 2))⟩, ⟨none, (some 24), (.ld false 1 (.t 23))⟩, ⟨none, (some 25), (.faddr 4 (.t 3))⟩, ⟨none, (some 26), (.ld false 1 (.t 25))⟩, ⟨none, (some 27), (.bin .neq .none (.t 24) (.t 26))⟩]
def r_s_l15Count_3 : List CO := [⟨none, (some 28), (.mv (.t 5))⟩, ⟨none, (some 29), (.bin .add .none (.t 28) (.k (.v (.int .i64 (2)))))⟩, ⟨none, (some 4), (.mv (.t 29))⟩]
def r_s_l15Count_4 : List CO := [⟨none, (some 30), (.faddr 5 (.t 2))⟩, ⟨none, (some 31), (.ld false 1 (.t 30))⟩, ⟨none, (some 32), (.faddr 5 (.t 3))⟩, ⟨none, (some 33), (.ld false 1 (.t 32))⟩, ⟨none, (some 34), (.bin .neq .none (.t 31) (.t 33))⟩]
def r_s_l15Count_5 : List CO := [⟨none, (some 35), (.mv (.t 5))⟩, ⟨none, (some 36), (.bin .add .none (.t 35) (.k (.v (.int .i64 (1)))))⟩, ⟨none, (some 5), (.mv (.t 36))⟩]
def r_s_l15Count_6 : List CO := [⟨none, (some 37), (.faddr 6 (.t 2))⟩, ⟨none, (some 38), (.ld false 1 (.t 37))⟩, ⟨none, (some 39), (.faddr 6 (.t 3))⟩, ⟨none, (some 40), (.ld false 1 (.t 39))⟩, ⟨none, (some 41), (.bin .neq .none (.t 38) (.t 40))⟩]
def r_s_l15Count_7 : List CO := [⟨none, (some 42), (.mv (.t 5))⟩, ⟨none, (some 43), (.bin .add .none (.t 42) (.k (.v (.int .i64 (1)))))⟩, ⟨none, (some 5), (.mv (.t 43))⟩]
def r_s_l15Count_8 : List CO := [⟨none, (some 44), (.mv (.t 5))⟩, ⟨none, (some 4), (.mv (.t 44))⟩]
/-- loop.example/g00884/spec.l15Count -/
def c_s_l15Count : C := (.seq (.reg r_s_l15Count_0 [2, 3]) (.seq (.regD r_s_l15Count_1 p_s_l15Count_1 [2, 3, 5]) (.seq (.seq (.reg r_s_l15Count_2 [2, 3, 5, 27]) (.cond (.t 27) (.seq (.reg r_s_l15Count_3 [4]) .ret) .skip)) (.seq (.seq (.reg r_s_l15Count_4 [2, 3, 5, 34]) (.cond (.t 34) (.reg r_s_l15Count_5 [2, 3, 5]) .skip)) (.seq (.seq (.reg r_s_l15Count_6 [5, 41]) (.cond (.t 41) (.reg r_s_l15Count_7 [5]) .skip)) (.seq (.reg r_s_l15Count_8 [4]) .ret))))))
def k_s_l15Count : Nat → List Nat
  | 0 => [2, 3]
  | 1 => [2, 3, 5]
  | 2 => [2, 3, 5, 27]
  | 3 => [4]
  | 4 => [2, 3, 5, 34]
  | 5 => [2, 3, 5]
  | 6 => [5, 41]
  | 7 => [5]
  | 8 => [4]
  | _ => []
theorem fn_s_l15Count : FnC Tryz.prog n_s_l15Count c_s_l15Count [(.tmp 4)] 45 :=
  ⟨Tryz.f133, _, k_s_l15Count, Tryz.func133, rfl, by kernel_rfl, by kernel_rfl, by kernel_rfl, rfl⟩
def r_s_l15Conflict_0 : List CO := [⟨none, (some 2), (.box 15 (.t 0))⟩, ⟨none, (some 3), (.box 15 (.t 1))⟩, ⟨none, (some 4), (.mv (.k (.v (.bool false))))⟩]
def r_s_l15Conflict_1 : List CO := [⟨none, (some 5), (.ld true 15 (.t 2))⟩, ⟨none, (some 6), (.ld true 15 (.t 3))⟩, ⟨none, (some 7), (.call n_s_l15Count [(.t 5), (.t 6)])⟩, ⟨none, (some 8), (.bin .lss .none (.t 7) (.k (.v (.int .i64 (2)))))⟩, ⟨none, (some 4), (.mv (.t 8))⟩]
/-- loop.example/g00884/spec.l15Conflict -/
def c_s_l15Conflict : C := (.seq (.reg r_s_l15Conflict_0 [2, 3]) (.seq (.reg r_s_l15Conflict_1 [4]) .ret))
def k_s_l15Conflict : Nat → List Nat
  | 0 => [2, 3]
  | 1 => [4]
  | _ => []
theorem fn_s_l15Conflict : FnC Tryz.prog n_s_l15Conflict c_s_l15Conflict [(.tmp 4)] 9 :=
  ⟨Tryz.f91, _, k_s_l15Conflict, Tryz.func91, rfl, by kernel_rfl, by kernel_rfl, by kernel_rfl, rfl⟩
end Go.Proofs.YtbeoijlggphklaaGreatDoor

/- The compact code of the functions, and that it is theirs: written by a program of this claim. -/
namespace Go.Proofs.YtbeoijlggphklaaGreatDoor
open Go.Abs
set_option maxRecDepth 100000
def r_w_toField_0 : List CO := [⟨none, (some 1), (.box 4 (.t 0))⟩, ⟨none, (some 2), (.box 4 (.k (.agg [(.v (.int .i64 (0))), (.v (.int .i64 (0))), (.v (.int .i64 (0))), (.v (.int .i64 (0)))])))⟩]
def r_w_toField_1 : List CO := [⟨none, (some 3), (.box 4 (.k (.agg [(.v (.int .i64 (0))), (.v (.int .i64 (0))), (.v (.int .i64 (0))), (.v (.int .i64 (0)))])))⟩]
def r_w_toField_2 : List CO := [⟨none, (some 4), (.faddr 0 (.t 1))⟩, ⟨none, (some 5), (.ld false 1 (.t 4))⟩, ⟨none, (some 6), (.faddr 0 (.t 3))⟩, ⟨none, none, (.st 1 (.t 6) (.t 5))⟩]
def r_w_toField_3 : List CO := [⟨none, (some 7), (.faddr 1 (.t 1))⟩, ⟨none, (some 8), (.ld false 1 (.t 7))⟩, ⟨none, (some 9), (.faddr 1 (.t 3))⟩, ⟨none, none, (.st 1 (.t 9) (.t 8))⟩]
def r_w_toField_4 : List CO := [⟨none, (some 10), (.faddr 2 (.t 1))⟩, ⟨none, (some 11), (.ld false 1 (.t 10))⟩, ⟨none, (some 12), (.faddr 2 (.t 3))⟩, ⟨none, none, (.st 1 (.t 12) (.t 11))⟩]
def r_w_toField_5 : List CO := [⟨none, (some 13), (.faddr 3 (.t 1))⟩, ⟨none, (some 14), (.ld false 1 (.t 13))⟩, ⟨none, (some 15), (.faddr 3 (.t 3))⟩, ⟨none, none, (.st 1 (.t 15) (.t 14))⟩]
def r_w_toField_6 : List CO := [⟨none, (some 16), (.ld true 4 (.t 3))⟩, ⟨none, none, (.st 4 (.t 2) (.t 16))⟩]
/-- loop.example/g00884/laws.toField -/
def c_w_toField : C := (.seq (.reg r_w_toField_0 [1, 2]) (.seq (.reg r_w_toField_1 [1, 2, 3]) (.seq (.reg r_w_toField_2 [1, 2, 3]) (.seq (.reg r_w_toField_3 [1, 2, 3]) (.seq (.reg r_w_toField_4 [1, 2, 3]) (.seq (.reg r_w_toField_5 [2, 3]) (.seq (.reg r_w_toField_6 [2]) .ret)))))))
def k_w_toField : Nat → List Nat
  | 0 => [1, 2]
  | 1 => [1, 2, 3]
  | 2 => [1, 2, 3]
  | 3 => [1, 2, 3]
  | 4 => [1, 2, 3]
  | 5 => [2, 3]
  | 6 => [2]
  | _ => []
theorem fn_w_toField : FnC Tryz.prog n_w_toField c_w_toField [(.cell 2 true 4)] 17 :=
  ⟨Tryz.f94, _, k_w_toField, Tryz.func94, rfl, by kernel_rfl, by kernel_rfl, by kernel_rfl, rfl⟩
def r_w_toGroup_0 : List CO := [⟨none, (some 1), (.box 4 (.t 0))⟩, ⟨none, (some 2), (.box 4 (.k (.agg [(.v (.int .i64 (0))), (.v (.int .i64 (0))), (.v (.int .i64 (0))), (.v (.int .i64 (0)))])))⟩]
def r_w_toGroup_1 : List CO := [⟨none, (some 3), (.box 4 (.k (.agg [(.v (.int .i64 (0))), (.v (.int .i64 (0))), (.v (.int .i64 (0))), (.v (.int .i64 (0)))])))⟩]
def r_w_toGroup_2 : List CO := [⟨none, (some 4), (.faddr 0 (.t 1))⟩, ⟨none, (some 5), (.ld false 1 (.t 4))⟩, ⟨none, (some 6), (.faddr 0 (.t 3))⟩, ⟨none, none, (.st 1 (.t 6) (.t 5))⟩]
def r_w_toGroup_3 : List CO := [⟨none, (some 7), (.faddr 1 (.t 1))⟩, ⟨none, (some 8), (.ld false 1 (.t 7))⟩, ⟨none, (some 9), (.faddr 1 (.t 3))⟩, ⟨none, none, (.st 1 (.t 9) (.t 8))⟩]
def r_w_toGroup_4 : List CO := [⟨none, (some 10), (.faddr 2 (.t 1))⟩, ⟨none, (some 11), (.ld false 1 (.t 10))⟩, ⟨none, (some 12), (.faddr 2 (.t 3))⟩, ⟨none, none, (.st 1 (.t 12) (.t 11))⟩]
def r_w_toGroup_5 : List CO := [⟨none, (some 13), (.faddr 3 (.t 1))⟩, ⟨none, (some 14), (.ld false 1 (.t 13))⟩, ⟨none, (some 15), (.faddr 3 (.t 3))⟩, ⟨none, none, (.st 1 (.t 15) (.t 14))⟩]
def r_w_toGroup_6 : List CO := [⟨none, (some 16), (.ld true 4 (.t 3))⟩, ⟨none, none, (.st 4 (.t 2) (.t 16))⟩]
/-- loop.example/g00884/laws.toGroup -/
def c_w_toGroup : C := (.seq (.reg r_w_toGroup_0 [1, 2]) (.seq (.reg r_w_toGroup_1 [1, 2, 3]) (.seq (.reg r_w_toGroup_2 [1, 2, 3]) (.seq (.reg r_w_toGroup_3 [1, 2, 3]) (.seq (.reg r_w_toGroup_4 [1, 2, 3]) (.seq (.reg r_w_toGroup_5 [2, 3]) (.seq (.reg r_w_toGroup_6 [2]) .ret)))))))
def k_w_toGroup : Nat → List Nat
  | 0 => [1, 2]
  | 1 => [1, 2, 3]
  | 2 => [1, 2, 3]
  | 3 => [1, 2, 3]
  | 4 => [1, 2, 3]
  | 5 => [2, 3]
  | 6 => [2]
  | _ => []
theorem fn_w_toGroup : FnC Tryz.prog n_w_toGroup c_w_toGroup [(.cell 2 true 4)] 17 :=
  ⟨Tryz.f95, _, k_w_toGroup, Tryz.func95, rfl, by kernel_rfl, by kernel_rfl, by kernel_rfl, rfl⟩
def r_w_toArms_0 : List CO := [⟨none, (some 1), (.box 15 (.t 0))⟩, ⟨none, (some 2), (.box 15 (.k (.agg [(.v (.int .i64 (0))), (.v (.int .i64 (0))), (.v (.int .i64 (0))), (.v (.int .i64 (0))), (.v (.int .i64 (0))), (.v (.int .i64 (0))), (.v (.int .i64 (0))), (.v (.int .i64 (0))), (.v (.int .i64 (0))), (.v (.int .i64 (0))), (.v (.int .i64 (0))), (.v (.int .i64 (0))), (.v (.int .i64 (0))), (.v (.int .i64 (0))), (.v (.int .i64 (0)))])))⟩]
def r_w_toArms_1 : List CO := [⟨none, (some 3), (.box 15 (.k (.agg [(.v (.int .i64 (0))), (.v (.int .i64 (0))), (.v (.int .i64 (0))), (.v (.int .i64 (0))), (.v (.int .i64 (0))), (.v (.int .i64 (0))), (.v (.int .i64 (0))), (.v (.int .i64 (0))), (.v (.int .i64 (0))), (.v (.int .i64 (0))), (.v (.int .i64 (0))), (.v (.int .i64 (0))), (.v (.int .i64 (0))), (.v (.int .i64 (0))), (.v (.int .i64 (0)))])))⟩]
def r_w_toArms_2 : List CO := [⟨none, (some 4), (.faddr 0 (.t 1))⟩, ⟨none, (some 5), (.ld true 4 (.t 4))⟩, ⟨none, (some 6), (.call n_w_toField [(.t 5)])⟩, ⟨none, (some 7), (.faddr 0 (.t 3))⟩, ⟨none, none, (.st 4 (.t 7) (.t 6))⟩]
def r_w_toArms_3 : List CO := [⟨none, (some 8), (.faddr 4 (.t 1))⟩, ⟨none, (some 9), (.ld false 1 (.t 8))⟩, ⟨none, (some 10), (.faddr 4 (.t 3))⟩, ⟨none, none, (.st 1 (.t 10) (.t 9))⟩]
def r_w_toArms_4 : List CO := [⟨none, (some 11), (.faddr 5 (.t 1))⟩, ⟨none, (some 12), (.ld false 1 (.t 11))⟩, ⟨none, (some 13), (.faddr 5 (.t 3))⟩, ⟨none, none, (.st 1 (.t 13) (.t 12))⟩]
def r_w_toArms_5 : List CO := [⟨none, (some 14), (.faddr 6 (.t 1))⟩, ⟨none, (some 15), (.ld false 1 (.t 14))⟩, ⟨none, (some 16), (.faddr 6 (.t 3))⟩, ⟨none, none, (.st 1 (.t 16) (.t 15))⟩]
def r_w_toArms_6 : List CO := [⟨none, (some 17), (.faddr 7 (.t 1))⟩, ⟨none, (some 18), (.ld true 4 (.t 17))⟩, ⟨none, (some 19), (.call n_w_toGroup [(.t 18)])⟩, ⟨none, (some 20), (.faddr 7 (.t 3))⟩, ⟨none, none, (.st 4 (.t 20) (.t 19))⟩]
def r_w_toArms_7 : List CO := [⟨none, (some 21), (.faddr 11 (.t 1))⟩, ⟨none, (some 22), (.ld true 4 (.t 21))⟩, ⟨none, (some 23), (.call n_w_toGroup [(.t 22)])⟩, ⟨none, (some 24), (.faddr 11 (.t 3))⟩, ⟨none, none, (.st 4 (.t 24) (.t 23))⟩]
def r_w_toArms_8 : List CO := [⟨none, (some 25), (.ld true 15 (.t 3))⟩, ⟨none, none, (.st 15 (.t 2) (.t 25))⟩]
/-- loop.example/g00884/laws.toArms -/
def c_w_toArms : C := (.seq (.reg r_w_toArms_0 [1, 2]) (.seq (.reg r_w_toArms_1 [1, 2, 3]) (.seq (.reg r_w_toArms_2 [1, 2, 3]) (.seq (.reg r_w_toArms_3 [1, 2, 3]) (.seq (.reg r_w_toArms_4 [1, 2, 3]) (.seq (.reg r_w_toArms_5 [1, 2, 3]) (.seq (.reg r_w_toArms_6 [1, 2, 3]) (.seq (.reg r_w_toArms_7 [2, 3]) (.seq (.reg r_w_toArms_8 [2]) .ret)))))))))
def k_w_toArms : Nat → List Nat
  | 0 => [1, 2]
  | 1 => [1, 2, 3]
  | 2 => [1, 2, 3]
  | 3 => [1, 2, 3]
  | 4 => [1, 2, 3]
  | 5 => [1, 2, 3]
  | 6 => [1, 2, 3]
  | 7 => [2, 3]
  | 8 => [2]
  | _ => []
theorem fn_w_toArms : FnC Tryz.prog n_w_toArms c_w_toArms [(.cell 2 true 15)] 26 :=
  ⟨Tryz.f55, _, k_w_toArms, Tryz.func55, rfl, by kernel_rfl, by kernel_rfl, by kernel_rfl, rfl⟩
def r_i_isLine_0 : List CO := [⟨none, (some 2), (.mv (.k (.v (.bool false))))⟩]
def r_i_isLine_1 : List CO := [⟨none, (some 3), (.mv (.t 0))⟩, ⟨none, (some 4), (.call n_i_inside [(.t 3), (.k (.v (.int .i64 (0)))), (.k (.v (.int .i64 (4))))])⟩, ⟨none, (some 2), (.mv (.t 4))⟩]
/-- loop.example/g00884/impl.isLine -/
def c_i_isLine : C := (.seq (.reg r_i_isLine_0 [0]) (.seq (.reg r_i_isLine_1 [2]) .ret))
def k_i_isLine : Nat → List Nat
  | 0 => [0]
  | 1 => [2]
  | _ => []
theorem fn_i_isLine : FnC Tryz.prog n_i_isLine c_i_isLine [(.tmp 2)] 5 :=
  ⟨Tryz.f183, _, k_i_isLine, Tryz.func183, rfl, by kernel_rfl, by kernel_rfl, by kernel_rfl, rfl⟩
def r_i_isKind_0 : List CO := [⟨none, (some 2), (.mv (.k (.v (.bool false))))⟩]
def r_i_isKind_1 : List CO := [⟨none, (some 3), (.mv (.t 0))⟩, ⟨none, (some 4), (.call n_i_inside [(.t 3), (.k (.v (.int .i64 (1)))), (.k (.v (.int .i64 (8))))])⟩, ⟨none, (some 2), (.mv (.t 4))⟩]
/-- loop.example/g00884/impl.isKind -/
def c_i_isKind : C := (.seq (.reg r_i_isKind_0 [0]) (.seq (.reg r_i_isKind_1 [2]) .ret))
def k_i_isKind : Nat → List Nat
  | 0 => [0]
  | 1 => [2]
  | _ => []
theorem fn_i_isKind : FnC Tryz.prog n_i_isKind c_i_isKind [(.tmp 2)] 5 :=
  ⟨Tryz.f219, _, k_i_isKind, Tryz.func219, rfl, by kernel_rfl, by kernel_rfl, by kernel_rfl, rfl⟩
def r_s_l3Line_0 : List CO := [⟨none, (some 2), (.mv (.k (.v (.bool false))))⟩]
def r_s_l3Line_1 : List CO := [⟨none, (some 3), (.mv (.t 0))⟩, ⟨none, (some 4), (.call n_s_l1In [(.t 3), (.k (.v (.int .i64 (0)))), (.k (.v (.int .i64 (4))))])⟩, ⟨none, (some 2), (.mv (.t 4))⟩]
/-- loop.example/g00884/spec.l3Line -/
def c_s_l3Line : C := (.seq (.reg r_s_l3Line_0 [0]) (.seq (.reg r_s_l3Line_1 [2]) .ret))
def k_s_l3Line : Nat → List Nat
  | 0 => [0]
  | 1 => [2]
  | _ => []
theorem fn_s_l3Line : FnC Tryz.prog n_s_l3Line c_s_l3Line [(.tmp 2)] 5 :=
  ⟨Tryz.f177, _, k_s_l3Line, Tryz.func177, rfl, by kernel_rfl, by kernel_rfl, by kernel_rfl, rfl⟩
def r_s_l4Kind_0 : List CO := [⟨none, (some 2), (.mv (.k (.v (.bool false))))⟩]
def r_s_l4Kind_1 : List CO := [⟨none, (some 3), (.mv (.t 0))⟩, ⟨none, (some 4), (.call n_s_l1In [(.t 3), (.k (.v (.int .i64 (1)))), (.k (.v (.int .i64 (8))))])⟩, ⟨none, (some 2), (.mv (.t 4))⟩]
/-- loop.example/g00884/spec.l4Kind -/
def c_s_l4Kind : C := (.seq (.reg r_s_l4Kind_0 [0]) (.seq (.reg r_s_l4Kind_1 [2]) .ret))
def k_s_l4Kind : Nat → List Nat
  | 0 => [0]
  | 1 => [2]
  | _ => []
theorem fn_s_l4Kind : FnC Tryz.prog n_s_l4Kind c_s_l4Kind [(.tmp 2)] 5 :=
  ⟨Tryz.f214, _, k_s_l4Kind, Tryz.func214, rfl, by kernel_rfl, by kernel_rfl, by kernel_rfl, rfl⟩
def r_s_l4Beast_0 : List CO := [⟨none, (some 2), (.mv (.k (.v (.bool false))))⟩]
def r_s_l4Beast_1 : List CO := [⟨none, (some 3), (.mv (.t 0))⟩, ⟨none, (some 4), (.bin .leq .none (.t 3) (.k (.v (.int .i64 (3)))))⟩, ⟨none, (some 2), (.mv (.t 4))⟩]
/-- loop.example/g00884/spec.l4Beast -/
def c_s_l4Beast : C := (.seq (.reg r_s_l4Beast_0 [0]) (.seq (.reg r_s_l4Beast_1 [2]) .ret))
def k_s_l4Beast : Nat → List Nat
  | 0 => [0]
  | 1 => [2]
  | _ => []
theorem fn_s_l4Beast : FnC Tryz.prog n_s_l4Beast c_s_l4Beast [(.tmp 2)] 5 :=
  ⟨Tryz.f205, _, k_s_l4Beast, Tryz.func205, rfl, by kernel_rfl, by kernel_rfl, by kernel_rfl, rfl⟩
def r_s_l4None_0 : List CO := [⟨none, (some 1), (.box 4 (.t 0))⟩, ⟨none, (some 2), (.mv (.k (.v (.bool false))))⟩]
def r_s_l4None_1 : List CO := [⟨none, (some 3), (.ld true 4 (.t 1))⟩, ⟨none, (some 4), (.build (.agg [(.v (.int .i64 (0))), (.v (.int .i64 (0))), (.v (.int .i64 (0))), (.v (.int .i64 (0)))]) [])⟩, ⟨none, (some 5), (.bin .eql (.struct [EK.int, EK.int, EK.int, EK.int]) (.t 3) (.t 4))⟩, ⟨none, (some 2), (.mv (.t 5))⟩]
/-- loop.example/g00884/spec.l4None -/
def c_s_l4None : C := (.seq (.reg r_s_l4None_0 [1]) (.seq (.reg r_s_l4None_1 [2]) .ret))
def k_s_l4None : Nat → List Nat
  | 0 => [1]
  | 1 => [2]
  | _ => []
theorem fn_s_l4None : FnC Tryz.prog n_s_l4None c_s_l4None [(.tmp 2)] 6 :=
  ⟨Tryz.f137, _, k_s_l4None, Tryz.func137, rfl, by kernel_rfl, by kernel_rfl, by kernel_rfl, rfl⟩
def r_i_number_0 : List CO := [⟨none, (some 2), (.mv (.k (.v (.int .i64 (0)))))⟩]
def r_i_number_1 : List CO := [⟨none, (some 3), (.mv (.t 0))⟩]
def r_i_number_2 : List CO := [⟨none, (some 2), (.mv (.k (.v (.int .i64 (1)))))⟩]
def r_i_number_3 : List CO := [⟨none, (some 2), (.mv (.k (.v (.int .i64 (0)))))⟩]
/-- loop.example/g00884/impl.number -/
def c_i_number : C := (.seq (.reg r_i_number_0 [0]) (.seq (.seq (.reg r_i_number_1 [3]) (.cond (.t 3) (.seq (.reg r_i_number_2 [2]) .ret) .skip)) (.seq (.reg r_i_number_3 [2]) .ret)))
def k_i_number : Nat → List Nat
  | 0 => [0]
  | 1 => [3]
  | 2 => [2]
  | 3 => [2]
  | _ => []
theorem fn_i_number : FnC Tryz.prog n_i_number c_i_number [(.tmp 2)] 4 :=
  ⟨Tryz.f188, _, k_i_number, Tryz.func188, rfl, by kernel_rfl, by kernel_rfl, by kernel_rfl, rfl⟩
def r_i_attitudes_0 : List CO := [⟨none, (some 2), (.mv (.k (.v (.slice none 0 0))))⟩]
def r_i_attitudes_1 : List CO := [⟨none, (some 3), (.mv (.t 0))⟩]
def r_i_attitudes_2 : List CO := [⟨none, (some 5), (.bin .eql .none (.t 3) (.k (.v (.int .i64 (1)))))⟩, ⟨none, (some 4), (.mv (.t 5))⟩]
def r_i_attitudes_3 : List CO := [⟨none, (some 6), (.bslice 1 (.v (.string (bs []))) 2 [(0, (.k (.v (.string (bs [114, 97, 109, 112, 97, 110, 116]))))), (1, (.k (.v (.string (bs [112, 97, 115, 115, 97, 110, 116])))))])⟩, ⟨none, (some 2), (.mv (.t 6))⟩]
def r_i_attitudes_4 : List CO := [⟨none, (some 8), (.bin .eql .none (.t 3) (.k (.v (.int .i64 (2)))))⟩, ⟨none, (some 7), (.mv (.t 8))⟩]
def r_i_attitudes_5 : List CO := [⟨none, (some 9), (.bslice 1 (.v (.string (bs []))) 2 [(0, (.k (.v (.string (bs [100, 105, 115, 112, 108, 97, 121, 101, 100]))))), (1, (.k (.v (.string (bs [114, 105, 115, 105, 110, 103])))))])⟩, ⟨none, (some 2), (.mv (.t 9))⟩]
def r_i_attitudes_6 : List CO := [⟨none, (some 11), (.bin .eql .none (.t 3) (.k (.v (.int .i64 (3)))))⟩, ⟨none, (some 10), (.mv (.t 11))⟩]
def r_i_attitudes_7 : List CO := [⟨none, (some 12), (.bslice 1 (.v (.string (bs []))) 2 [(0, (.k (.v (.string (bs [115, 119, 105, 109, 109, 105, 110, 103]))))), (1, (.k (.v (.string (bs [117, 112, 114, 105, 103, 104, 116])))))])⟩, ⟨none, (some 2), (.mv (.t 12))⟩]
def r_i_attitudes_8 : List CO := [⟨none, (some 13), (.bslice 1 (.v (.string (bs []))) 0 [])⟩, ⟨none, (some 2), (.mv (.t 13))⟩]
/-- loop.example/g00884/impl.attitudes -/
def c_i_attitudes : C := (.seq (.reg r_i_attitudes_0 [0]) (.seq (.seq (.reg r_i_attitudes_1 [3]) (.block 0 (.seq (.reg r_i_attitudes_2 [3, 4]) (.cond (.t 4) (.seq (.reg r_i_attitudes_3 [2]) .ret) (.seq (.reg r_i_attitudes_4 [3, 7]) (.cond (.t 7) (.seq (.reg r_i_attitudes_5 [2]) .ret) (.seq (.reg r_i_attitudes_6 [10]) (.cond (.t 10) (.seq (.reg r_i_attitudes_7 [2]) .ret) .skip)))))))) (.seq (.reg r_i_attitudes_8 [2]) .ret)))
def k_i_attitudes : Nat → List Nat
  | 0 => [0]
  | 1 => [3]
  | 2 => [3, 4]
  | 3 => [2]
  | 4 => [3, 7]
  | 5 => [2]
  | 6 => [10]
  | 7 => [2]
  | 8 => [2]
  | _ => []
theorem fn_i_attitudes : FnC Tryz.prog n_i_attitudes c_i_attitudes [(.tmp 2)] 14 :=
  ⟨Tryz.f220, _, k_i_attitudes, Tryz.func220, rfl, by kernel_rfl, by kernel_rfl, by kernel_rfl, rfl⟩
def r_s_l3Good_0 : List CO := [⟨none, (some 1), (.box 4 (.t 0))⟩, ⟨none, (some 2), (.mv (.k (.v (.bool false))))⟩]
def r_s_l3Good_1 : List CO := [⟨none, (some 3), (.faddr 0 (.t 1))⟩, ⟨none, (some 4), (.ld false 1 (.t 3))⟩, ⟨none, (some 5), (.call n_s_l1In [(.t 4), (.k (.v (.int .i64 (0)))), (.k (.v (.int .i64 (7))))])⟩, ⟨none, (some 6), (.un .not (.t 5))⟩, ⟨none, (some 7), (.mv (.t 6))⟩, ⟨(some (7, false)), (some 8), (.faddr 1 (.t 1))⟩, ⟨(some (7, false)), (some 9), (.ld false 1 (.t 8))⟩, ⟨(some (7, false)), (some 10), (.call n_s_l3Line [(.t 9)])⟩, ⟨(some (7, false)), (some 11), (.un .not (.t 10))⟩, ⟨none, (some 12), (.pick (.t 7) (.k (.v (.bool true))) (.t 11))⟩, ⟨none, (some 13), (.mv (.t 12))⟩, ⟨(some (13, false)), (some 14), (.faddr 2 (.t 1))⟩, ⟨(some (13, false)), (some 15), (.ld false 1 (.t 14))⟩, ⟨(some (13, false)), (some 16), (.call n_s_l2Good [(.t 15)])⟩, ⟨(some (13, false)), (some 17), (.un .not (.t 16))⟩, ⟨none, (some 18), (.pick (.t 13) (.k (.v (.bool true))) (.t 17))⟩]
def r_s_l3Good_2 : List CO := [⟨none, (some 2), (.mv (.k (.v (.bool false))))⟩]
def r_s_l3Good_3 : List CO := [⟨none, (some 19), (.faddr 0 (.t 1))⟩, ⟨none, (some 20), (.ld false 1 (.t 19))⟩, ⟨none, (some 21), (.bin .eql .none (.t 20) (.k (.v (.int .i64 (0)))))⟩]
def r_s_l3Good_4 : List CO := [⟨none, (some 22), (.faddr 1 (.t 1))⟩, ⟨none, (some 23), (.ld false 1 (.t 22))⟩, ⟨none, (some 24), (.bin .eql .none (.t 23) (.k (.v (.int .i64 (0)))))⟩, ⟨none, (some 25), (.mv (.t 24))⟩, ⟨(some (25, true)), (some 26), (.faddr 3 (.t 1))⟩, ⟨(some (25, true)), (some 27), (.ld false 1 (.t 26))⟩, ⟨(some (25, true)), (some 28), (.bin .eql .none (.t 27) (.k (.v (.int .i64 (0)))))⟩, ⟨none, (some 29), (.pick (.t 25) (.t 28) (.k (.v (.bool false))))⟩, ⟨none, (some 2), (.mv (.t 29))⟩]
def r_s_l3Good_5 : List CO := [⟨none, (some 30), (.faddr 3 (.t 1))⟩, ⟨none, (some 31), (.ld false 1 (.t 30))⟩, ⟨none, (some 32), (.call n_s_l2Good [(.t 31)])⟩, ⟨none, (some 33), (.mv (.t 32))⟩, ⟨(some (33, true)), (some 34), (.faddr 3 (.t 1))⟩, ⟨(some (33, true)), (some 35), (.ld false 1 (.t 34))⟩, ⟨(some (33, true)), (some 36), (.faddr 2 (.t 1))⟩, ⟨(some (33, true)), (some 37), (.ld false 1 (.t 36))⟩, ⟨(some (33, true)), (some 38), (.bin .neq .none (.t 35) (.t 37))⟩, ⟨none, (some 39), (.pick (.t 33) (.t 38) (.k (.v (.bool false))))⟩, ⟨none, (some 2), (.mv (.t 39))⟩]
/-- loop.example/g00884/spec.l3Good -/
def c_s_l3Good : C := (.seq (.reg r_s_l3Good_0 [1]) (.seq (.seq (.reg r_s_l3Good_1 [1, 18]) (.cond (.t 18) (.seq (.reg r_s_l3Good_2 [2]) .ret) .skip)) (.seq (.seq (.reg r_s_l3Good_3 [1, 21]) (.cond (.t 21) (.seq (.reg r_s_l3Good_4 [2]) .ret) .skip)) (.seq (.reg r_s_l3Good_5 [2]) .ret))))
def k_s_l3Good : Nat → List Nat
  | 0 => [1]
  | 1 => [1, 18]
  | 2 => [2]
  | 3 => [1, 21]
  | 4 => [2]
  | 5 => [2]
  | _ => []
theorem fn_s_l3Good : FnC Tryz.prog n_s_l3Good c_s_l3Good [(.tmp 2)] 40 :=
  ⟨Tryz.f175, _, k_s_l3Good, Tryz.func175, rfl, by kernel_rfl, by kernel_rfl, by kernel_rfl, rfl⟩
def r_i_IsValidField_0 : List CO := [⟨none, (some 1), (.box 4 (.t 0))⟩, ⟨none, (some 2), (.mv (.k (.v (.bool false))))⟩]
def r_i_IsValidField_1 : List CO := [⟨none, (some 3), (.faddr 0 (.t 1))⟩, ⟨none, (some 4), (.ld false 1 (.t 3))⟩, ⟨none, (some 5), (.call n_i_inside [(.t 4), (.k (.v (.int .i64 (0)))), (.k (.v (.int .i64 (7))))])⟩, ⟨none, (some 6), (.un .not (.t 5))⟩, ⟨none, (some 7), (.mv (.t 6))⟩, ⟨(some (7, false)), (some 8), (.faddr 1 (.t 1))⟩, ⟨(some (7, false)), (some 9), (.ld false 1 (.t 8))⟩, ⟨(some (7, false)), (some 10), (.call n_i_isLine [(.t 9)])⟩, ⟨(some (7, false)), (some 11), (.un .not (.t 10))⟩, ⟨none, (some 12), (.pick (.t 7) (.k (.v (.bool true))) (.t 11))⟩, ⟨none, (some 13), (.mv (.t 12))⟩, ⟨(some (13, false)), (some 14), (.faddr 2 (.t 1))⟩, ⟨(some (13, false)), (some 15), (.ld false 1 (.t 14))⟩, ⟨(some (13, false)), (some 16), (.call n_i_IsTincture [(.t 15)])⟩, ⟨(some (13, false)), (some 17), (.un .not (.t 16))⟩, ⟨none, (some 18), (.pick (.t 13) (.k (.v (.bool true))) (.t 17))⟩]
def r_i_IsValidField_2 : List CO := [⟨none, (some 2), (.mv (.k (.v (.bool false))))⟩]
def r_i_IsValidField_3 : List CO := [⟨none, (some 19), (.faddr 0 (.t 1))⟩, ⟨none, (some 20), (.ld false 1 (.t 19))⟩, ⟨none, (some 21), (.bin .eql .none (.t 20) (.k (.v (.int .i64 (0)))))⟩]
def r_i_IsValidField_4 : List CO := [⟨none, (some 22), (.faddr 1 (.t 1))⟩, ⟨none, (some 23), (.ld false 1 (.t 22))⟩, ⟨none, (some 24), (.bin .eql .none (.t 23) (.k (.v (.int .i64 (0)))))⟩, ⟨none, (some 25), (.mv (.t 24))⟩, ⟨(some (25, true)), (some 26), (.faddr 3 (.t 1))⟩, ⟨(some (25, true)), (some 27), (.ld false 1 (.t 26))⟩, ⟨(some (25, true)), (some 28), (.bin .eql .none (.t 27) (.k (.v (.int .i64 (0)))))⟩, ⟨none, (some 29), (.pick (.t 25) (.t 28) (.k (.v (.bool false))))⟩, ⟨none, (some 2), (.mv (.t 29))⟩]
def r_i_IsValidField_5 : List CO := [⟨none, (some 30), (.faddr 3 (.t 1))⟩, ⟨none, (some 31), (.ld false 1 (.t 30))⟩, ⟨none, (some 32), (.call n_i_IsTincture [(.t 31)])⟩, ⟨none, (some 33), (.mv (.t 32))⟩, ⟨(some (33, true)), (some 34), (.faddr 3 (.t 1))⟩, ⟨(some (33, true)), (some 35), (.ld false 1 (.t 34))⟩, ⟨(some (33, true)), (some 36), (.faddr 2 (.t 1))⟩, ⟨(some (33, true)), (some 37), (.ld false 1 (.t 36))⟩, ⟨(some (33, true)), (some 38), (.bin .neq .none (.t 35) (.t 37))⟩, ⟨none, (some 39), (.pick (.t 33) (.t 38) (.k (.v (.bool false))))⟩, ⟨none, (some 2), (.mv (.t 39))⟩]
/-- loop.example/g00884/impl.IsValidField -/
def c_i_IsValidField : C := (.seq (.reg r_i_IsValidField_0 [1]) (.seq (.seq (.reg r_i_IsValidField_1 [1, 18]) (.cond (.t 18) (.seq (.reg r_i_IsValidField_2 [2]) .ret) .skip)) (.seq (.seq (.reg r_i_IsValidField_3 [1, 21]) (.cond (.t 21) (.seq (.reg r_i_IsValidField_4 [2]) .ret) .skip)) (.seq (.reg r_i_IsValidField_5 [2]) .ret))))
def k_i_IsValidField : Nat → List Nat
  | 0 => [1]
  | 1 => [1, 18]
  | 2 => [2]
  | 3 => [1, 21]
  | 4 => [2]
  | 5 => [2]
  | _ => []
theorem fn_i_IsValidField : FnC Tryz.prog n_i_IsValidField c_i_IsValidField [(.tmp 2)] 40 :=
  ⟨Tryz.f140, _, k_i_IsValidField, Tryz.func140, rfl, by kernel_rfl, by kernel_rfl, by kernel_rfl, rfl⟩
def r_s_l4Group_0 : List CO := [⟨none, (some 1), (.box 4 (.t 0))⟩, ⟨none, (some 2), (.mv (.k (.v (.bool false))))⟩]
def r_s_l4Group_1 : List CO := [⟨none, (some 3), (.faddr 0 (.t 1))⟩, ⟨none, (some 4), (.ld false 1 (.t 3))⟩, ⟨none, (some 5), (.call n_s_l1In [(.t 4), (.k (.v (.int .i64 (1)))), (.k (.v (.int .i64 (6))))])⟩, ⟨none, (some 6), (.un .not (.t 5))⟩, ⟨none, (some 7), (.mv (.t 6))⟩, ⟨(some (7, false)), (some 8), (.faddr 1 (.t 1))⟩, ⟨(some (7, false)), (some 9), (.ld false 1 (.t 8))⟩, ⟨(some (7, false)), (some 10), (.call n_s_l4Kind [(.t 9)])⟩, ⟨(some (7, false)), (some 11), (.un .not (.t 10))⟩, ⟨none, (some 12), (.pick (.t 7) (.k (.v (.bool true))) (.t 11))⟩, ⟨none, (some 13), (.mv (.t 12))⟩, ⟨(some (13, false)), (some 14), (.faddr 3 (.t 1))⟩, ⟨(some (13, false)), (some 15), (.ld false 1 (.t 14))⟩, ⟨(some (13, false)), (some 16), (.call n_s_l2Good [(.t 15)])⟩, ⟨(some (13, false)), (some 17), (.un .not (.t 16))⟩, ⟨none, (some 18), (.pick (.t 13) (.k (.v (.bool true))) (.t 17))⟩]
def r_s_l4Group_2 : List CO := [⟨none, (some 2), (.mv (.k (.v (.bool false))))⟩]
def r_s_l4Group_3 : List CO := [⟨none, (some 19), (.faddr 1 (.t 1))⟩, ⟨none, (some 20), (.ld false 1 (.t 19))⟩, ⟨none, (some 21), (.call n_s_l4Beast [(.t 20)])⟩]
def r_s_l4Group_4 : List CO := [⟨none, (some 22), (.faddr 2 (.t 1))⟩, ⟨none, (some 23), (.ld false 1 (.t 22))⟩, ⟨none, (some 24), (.call n_s_l1In [(.t 23), (.k (.v (.int .i64 (1)))), (.k (.v (.int .i64 (2))))])⟩, ⟨none, (some 2), (.mv (.t 24))⟩]
def r_s_l4Group_5 : List CO := [⟨none, (some 25), (.faddr 2 (.t 1))⟩, ⟨none, (some 26), (.ld false 1 (.t 25))⟩, ⟨none, (some 27), (.bin .eql .none (.t 26) (.k (.v (.int .i64 (0)))))⟩, ⟨none, (some 2), (.mv (.t 27))⟩]
/-- loop.example/g00884/spec.l4Group -/
def c_s_l4Group : C := (.seq (.reg r_s_l4Group_0 [1]) (.seq (.seq (.reg r_s_l4Group_1 [1, 18]) (.cond (.t 18) (.seq (.reg r_s_l4Group_2 [2]) .ret) .skip)) (.seq (.seq (.reg r_s_l4Group_3 [1, 21]) (.cond (.t 21) (.seq (.reg r_s_l4Group_4 [2]) .ret) .skip)) (.seq (.reg r_s_l4Group_5 [2]) .ret))))
def k_s_l4Group : Nat → List Nat
  | 0 => [1]
  | 1 => [1, 18]
  | 2 => [2]
  | 3 => [1, 21]
  | 4 => [2]
  | 5 => [2]
  | _ => []
theorem fn_s_l4Group : FnC Tryz.prog n_s_l4Group c_s_l4Group [(.tmp 2)] 28 :=
  ⟨Tryz.f176, _, k_s_l4Group, Tryz.func176, rfl, by kernel_rfl, by kernel_rfl, by kernel_rfl, rfl⟩
def r_i_IsValidGroup_0 : List CO := [⟨none, (some 1), (.box 4 (.t 0))⟩, ⟨none, (some 2), (.mv (.k (.v (.bool false))))⟩]
def r_i_IsValidGroup_1 : List CO := [⟨none, (some 4), (.faddr 0 (.t 1))⟩, ⟨none, (some 5), (.ld false 1 (.t 4))⟩, ⟨none, (some 6), (.call n_i_inside [(.t 5), (.k (.v (.int .i64 (1)))), (.k (.v (.int .i64 (6))))])⟩, ⟨none, (some 7), (.un .not (.t 6))⟩, ⟨none, (some 8), (.mv (.t 7))⟩, ⟨(some (8, false)), (some 9), (.faddr 1 (.t 1))⟩, ⟨(some (8, false)), (some 10), (.ld false 1 (.t 9))⟩, ⟨(some (8, false)), (some 11), (.call n_i_isKind [(.t 10)])⟩, ⟨(some (8, false)), (some 12), (.un .not (.t 11))⟩, ⟨none, (some 13), (.pick (.t 8) (.k (.v (.bool true))) (.t 12))⟩, ⟨none, (some 14), (.mv (.t 13))⟩, ⟨(some (14, false)), (some 15), (.faddr 3 (.t 1))⟩, ⟨(some (14, false)), (some 16), (.ld false 1 (.t 15))⟩, ⟨(some (14, false)), (some 17), (.call n_i_IsTincture [(.t 16)])⟩, ⟨(some (14, false)), (some 18), (.un .not (.t 17))⟩, ⟨none, (some 19), (.pick (.t 14) (.k (.v (.bool true))) (.t 18))⟩]
def r_i_IsValidGroup_2 : List CO := [⟨none, (some 2), (.mv (.k (.v (.bool false))))⟩]
def r_i_IsValidGroup_3 : List CO := [⟨none, (some 20), (.faddr 1 (.t 1))⟩, ⟨none, (some 21), (.ld false 1 (.t 20))⟩, ⟨none, (some 22), (.call n_i_attitudes [(.t 21)])⟩, ⟨none, (some 23), (.len false (.t 22))⟩, ⟨none, (some 3), (.mv (.t 23))⟩]
def r_i_IsValidGroup_4 : List CO := [⟨none, (some 24), (.mv (.t 3))⟩, ⟨none, (some 25), (.bin .gtr .none (.t 24) (.k (.v (.int .i64 (0)))))⟩]
def r_i_IsValidGroup_5 : List CO := [⟨none, (some 26), (.faddr 2 (.t 1))⟩, ⟨none, (some 27), (.ld false 1 (.t 26))⟩, ⟨none, (some 28), (.mv (.t 3))⟩, ⟨none, (some 29), (.call n_i_inside [(.t 27), (.k (.v (.int .i64 (1)))), (.t 28)])⟩, ⟨none, (some 2), (.mv (.t 29))⟩]
def r_i_IsValidGroup_6 : List CO := [⟨none, (some 30), (.faddr 2 (.t 1))⟩, ⟨none, (some 31), (.ld false 1 (.t 30))⟩, ⟨none, (some 32), (.bin .eql .none (.t 31) (.k (.v (.int .i64 (0)))))⟩, ⟨none, (some 2), (.mv (.t 32))⟩]
/-- loop.example/g00884/impl.IsValidGroup -/
def c_i_IsValidGroup : C := (.seq (.reg r_i_IsValidGroup_0 [1]) (.seq (.seq (.reg r_i_IsValidGroup_1 [1, 19]) (.cond (.t 19) (.seq (.reg r_i_IsValidGroup_2 [2]) .ret) .skip)) (.seq (.seq (.reg r_i_IsValidGroup_3 [1, 3]) (.seq (.reg r_i_IsValidGroup_4 [1, 3, 25]) (.cond (.t 25) (.seq (.reg r_i_IsValidGroup_5 [2]) .ret) .skip))) (.seq (.reg r_i_IsValidGroup_6 [2]) .ret))))
def k_i_IsValidGroup : Nat → List Nat
  | 0 => [1]
  | 1 => [1, 19]
  | 2 => [2]
  | 3 => [1, 3]
  | 4 => [1, 3, 25]
  | 5 => [2]
  | 6 => [2]
  | _ => []
theorem fn_i_IsValidGroup : FnC Tryz.prog n_i_IsValidGroup c_i_IsValidGroup [(.tmp 2)] 33 :=
  ⟨Tryz.f185, _, k_i_IsValidGroup, Tryz.func185, rfl, by kernel_rfl, by kernel_rfl, by kernel_rfl, rfl⟩
def r_i_isGroup_0 : List CO := [⟨none, (some 1), (.box 4 (.t 0))⟩, ⟨none, (some 2), (.mv (.k (.v (.bool false))))⟩]
def r_i_isGroup_1 : List CO := [⟨none, (some 3), (.ld true 4 (.t 1))⟩, ⟨none, (some 4), (.build (.agg [(.v (.int .i64 (0))), (.v (.int .i64 (0))), (.v (.int .i64 (0))), (.v (.int .i64 (0)))]) [])⟩, ⟨none, (some 5), (.bin .eql (.struct [EK.int, EK.int, EK.int, EK.int]) (.t 3) (.t 4))⟩, ⟨none, (some 6), (.mv (.t 5))⟩, ⟨(some (6, false)), (some 7), (.ld true 4 (.t 1))⟩, ⟨(some (6, false)), (some 8), (.call n_i_IsValidGroup [(.t 7)])⟩, ⟨none, (some 9), (.pick (.t 6) (.k (.v (.bool true))) (.t 8))⟩, ⟨none, (some 2), (.mv (.t 9))⟩]
/-- loop.example/g00884/impl.isGroup -/
def c_i_isGroup : C := (.seq (.reg r_i_isGroup_0 [1]) (.seq (.reg r_i_isGroup_1 [2]) .ret))
def k_i_isGroup : Nat → List Nat
  | 0 => [1]
  | 1 => [2]
  | _ => []
theorem fn_i_isGroup : FnC Tryz.prog n_i_isGroup c_i_isGroup [(.tmp 2)] 10 :=
  ⟨Tryz.f141, _, k_i_isGroup, Tryz.func141, rfl, by kernel_rfl, by kernel_rfl, by kernel_rfl, rfl⟩
def r_i_isOrdinary_0 : List CO := [⟨none, (some 6), (.mv (.k (.v (.bool false))))⟩]
def r_i_isOrdinary_1 : List CO := [⟨none, (some 7), (.mv (.t 0))⟩, ⟨none, (some 8), (.call n_i_inside [(.t 7), (.k (.v (.int .i64 (1)))), (.k (.v (.int .i64 (7))))])⟩, ⟨none, (some 9), (.mv (.t 8))⟩, ⟨(some (9, true)), (some 10), (.mv (.t 1))⟩, ⟨(some (9, true)), (some 11), (.call n_i_isLine [(.t 10)])⟩, ⟨none, (some 12), (.pick (.t 9) (.t 11) (.k (.v (.bool false))))⟩, ⟨none, (some 13), (.mv (.t 12))⟩, ⟨(some (13, true)), (some 14), (.mv (.t 2))⟩, ⟨(some (13, true)), (some 15), (.call n_i_IsTincture [(.t 14)])⟩, ⟨none, (some 16), (.pick (.t 13) (.t 15) (.k (.v (.bool false))))⟩, ⟨none, (some 6), (.mv (.t 16))⟩]
/-- loop.example/g00884/impl.isOrdinary -/
def c_i_isOrdinary : C := (.seq (.reg r_i_isOrdinary_0 [0, 1, 2]) (.seq (.reg r_i_isOrdinary_1 [6]) .ret))
def k_i_isOrdinary : Nat → List Nat
  | 0 => [0, 1, 2]
  | 1 => [6]
  | _ => []
theorem fn_i_isOrdinary : FnC Tryz.prog n_i_isOrdinary c_i_isOrdinary [(.tmp 6)] 17 :=
  ⟨Tryz.f142, _, k_i_isOrdinary, Tryz.func142, rfl, by kernel_rfl, by kernel_rfl, by kernel_rfl, rfl⟩
def r_i_IsValidArms_0 : List CO := [⟨none, (some 1), (.box 15 (.t 0))⟩, ⟨none, (some 2), (.mv (.k (.v (.bool false))))⟩]
def r_i_IsValidArms_1 : List CO := [⟨none, (some 3), (.faddr 0 (.t 1))⟩, ⟨none, (some 4), (.ld true 4 (.t 3))⟩, ⟨none, (some 5), (.call n_i_IsValidField [(.t 4)])⟩, ⟨none, (some 6), (.un .not (.t 5))⟩, ⟨none, (some 7), (.mv (.t 6))⟩, ⟨(some (7, false)), (some 8), (.faddr 11 (.t 1))⟩, ⟨(some (7, false)), (some 9), (.ld true 4 (.t 8))⟩, ⟨(some (7, false)), (some 10), (.call n_i_isGroup [(.t 9)])⟩, ⟨(some (7, false)), (some 11), (.un .not (.t 10))⟩, ⟨none, (some 12), (.pick (.t 7) (.k (.v (.bool true))) (.t 11))⟩]
def r_i_IsValidArms_2 : List CO := [⟨none, (some 2), (.mv (.k (.v (.bool false))))⟩]
def r_i_IsValidArms_3 : List CO := [⟨none, (some 13), (.faddr 4 (.t 1))⟩, ⟨none, (some 14), (.ld false 1 (.t 13))⟩, ⟨none, (some 15), (.bin .eql .none (.t 14) (.k (.v (.int .i64 (0)))))⟩]
def r_i_IsValidArms_4 : List CO := [⟨none, (some 16), (.faddr 5 (.t 1))⟩, ⟨none, (some 17), (.ld false 1 (.t 16))⟩, ⟨none, (some 18), (.bin .eql .none (.t 17) (.k (.v (.int .i64 (0)))))⟩, ⟨none, (some 19), (.mv (.t 18))⟩, ⟨(some (19, true)), (some 20), (.faddr 6 (.t 1))⟩, ⟨(some (19, true)), (some 21), (.ld false 1 (.t 20))⟩, ⟨(some (19, true)), (some 22), (.bin .eql .none (.t 21) (.k (.v (.int .i64 (0)))))⟩, ⟨none, (some 23), (.pick (.t 19) (.t 22) (.k (.v (.bool false))))⟩, ⟨none, (some 24), (.mv (.t 23))⟩, ⟨(some (24, true)), (some 25), (.faddr 7 (.t 1))⟩, ⟨(some (24, true)), (some 26), (.ld true 4 (.t 25))⟩, ⟨(some (24, true)), (some 27), (.build (.agg [(.v (.int .i64 (0))), (.v (.int .i64 (0))), (.v (.int .i64 (0))), (.v (.int .i64 (0)))]) [])⟩, ⟨(some (24, true)), (some 28), (.bin .eql (.struct [EK.int, EK.int, EK.int, EK.int]) (.t 26) (.t 27))⟩, ⟨none, (some 29), (.pick (.t 24) (.t 28) (.k (.v (.bool false))))⟩, ⟨none, (some 2), (.mv (.t 29))⟩]
def r_i_IsValidArms_5 : List CO := [⟨none, (some 30), (.faddr 4 (.t 1))⟩, ⟨none, (some 31), (.ld false 1 (.t 30))⟩, ⟨none, (some 32), (.faddr 5 (.t 1))⟩, ⟨none, (some 33), (.ld false 1 (.t 32))⟩, ⟨none, (some 34), (.faddr 6 (.t 1))⟩, ⟨none, (some 35), (.ld false 1 (.t 34))⟩, ⟨none, (some 36), (.call n_i_isOrdinary [(.t 31), (.t 33), (.t 35)])⟩, ⟨none, (some 37), (.mv (.t 36))⟩, ⟨(some (37, true)), (some 38), (.faddr 7 (.t 1))⟩, ⟨(some (37, true)), (some 39), (.ld true 4 (.t 38))⟩, ⟨(some (37, true)), (some 40), (.call n_i_isGroup [(.t 39)])⟩, ⟨none, (some 41), (.pick (.t 37) (.t 40) (.k (.v (.bool false))))⟩, ⟨none, (some 2), (.mv (.t 41))⟩]
/-- loop.example/g00884/impl.IsValidArms -/
def c_i_IsValidArms : C := (.seq (.reg r_i_IsValidArms_0 [1]) (.seq (.seq (.reg r_i_IsValidArms_1 [1, 12]) (.cond (.t 12) (.seq (.reg r_i_IsValidArms_2 [2]) .ret) .skip)) (.seq (.seq (.reg r_i_IsValidArms_3 [1, 15]) (.cond (.t 15) (.seq (.reg r_i_IsValidArms_4 [2]) .ret) .skip)) (.seq (.reg r_i_IsValidArms_5 [2]) .ret))))
def k_i_IsValidArms : Nat → List Nat
  | 0 => [1]
  | 1 => [1, 12]
  | 2 => [2]
  | 3 => [1, 15]
  | 4 => [2]
  | 5 => [2]
  | _ => []
theorem fn_i_IsValidArms : FnC Tryz.prog n_i_IsValidArms c_i_IsValidArms [(.tmp 2)] 42 :=
  ⟨Tryz.f97, _, k_i_IsValidArms, Tryz.func97, rfl, by kernel_rfl, by kernel_rfl, by kernel_rfl, rfl⟩
def r_s_l5Good_0 : List CO := [⟨none, (some 1), (.box 15 (.t 0))⟩, ⟨none, (some 2), (.mv (.k (.v (.bool false))))⟩]
def r_s_l5Good_1 : List CO := [⟨none, (some 3), (.faddr 0 (.t 1))⟩, ⟨none, (some 4), (.ld true 4 (.t 3))⟩, ⟨none, (some 5), (.call n_s_l3Good [(.t 4)])⟩, ⟨none, (some 6), (.un .not (.t 5))⟩, ⟨none, (some 7), (.mv (.t 6))⟩, ⟨(some (7, false)), (some 8), (.faddr 4 (.t 1))⟩, ⟨(some (7, false)), (some 9), (.ld false 1 (.t 8))⟩, ⟨(some (7, false)), (some 10), (.call n_s_l1In [(.t 9), (.k (.v (.int .i64 (0)))), (.k (.v (.int .i64 (7))))])⟩, ⟨(some (7, false)), (some 11), (.un .not (.t 10))⟩, ⟨none, (some 12), (.pick (.t 7) (.k (.v (.bool true))) (.t 11))⟩, ⟨none, (some 13), (.mv (.t 12))⟩, ⟨(some (13, false)), (some 14), (.faddr 11 (.t 1))⟩, ⟨(some (13, false)), (some 15), (.ld true 4 (.t 14))⟩, ⟨(some (13, false)), (some 16), (.call n_s_l4None [(.t 15)])⟩, ⟨(some (13, false)), (some 17), (.un .not (.t 16))⟩, ⟨(some (13, false)), (some 18), (.mv (.t 17))⟩, ⟨(some (18, true)), (some 19), (.faddr 11 (.t 1))⟩, ⟨(some (18, true)), (some 20), (.ld true 4 (.t 19))⟩, ⟨(some (18, true)), (some 21), (.call n_s_l4Group [(.t 20)])⟩, ⟨(some (18, true)), (some 22), (.un .not (.t 21))⟩, ⟨(some (13, false)), (some 23), (.pick (.t 18) (.t 22) (.k (.v (.bool false))))⟩, ⟨none, (some 24), (.pick (.t 13) (.k (.v (.bool true))) (.t 23))⟩]
def r_s_l5Good_2 : List CO := [⟨none, (some 2), (.mv (.k (.v (.bool false))))⟩]
def r_s_l5Good_3 : List CO := [⟨none, (some 25), (.faddr 4 (.t 1))⟩, ⟨none, (some 26), (.ld false 1 (.t 25))⟩, ⟨none, (some 27), (.bin .eql .none (.t 26) (.k (.v (.int .i64 (0)))))⟩]
def r_s_l5Good_4 : List CO := [⟨none, (some 28), (.faddr 5 (.t 1))⟩, ⟨none, (some 29), (.ld false 1 (.t 28))⟩, ⟨none, (some 30), (.bin .eql .none (.t 29) (.k (.v (.int .i64 (0)))))⟩, ⟨none, (some 31), (.mv (.t 30))⟩, ⟨(some (31, true)), (some 32), (.faddr 6 (.t 1))⟩, ⟨(some (31, true)), (some 33), (.ld false 1 (.t 32))⟩, ⟨(some (31, true)), (some 34), (.bin .eql .none (.t 33) (.k (.v (.int .i64 (0)))))⟩, ⟨none, (some 35), (.pick (.t 31) (.t 34) (.k (.v (.bool false))))⟩, ⟨none, (some 36), (.mv (.t 35))⟩, ⟨(some (36, true)), (some 37), (.faddr 7 (.t 1))⟩, ⟨(some (36, true)), (some 38), (.ld true 4 (.t 37))⟩, ⟨(some (36, true)), (some 39), (.call n_s_l4None [(.t 38)])⟩, ⟨none, (some 40), (.pick (.t 36) (.t 39) (.k (.v (.bool false))))⟩, ⟨none, (some 2), (.mv (.t 40))⟩]
def r_s_l5Good_5 : List CO := [⟨none, (some 41), (.faddr 5 (.t 1))⟩, ⟨none, (some 42), (.ld false 1 (.t 41))⟩, ⟨none, (some 43), (.call n_s_l3Line [(.t 42)])⟩, ⟨none, (some 44), (.mv (.t 43))⟩, ⟨(some (44, true)), (some 45), (.faddr 6 (.t 1))⟩, ⟨(some (44, true)), (some 46), (.ld false 1 (.t 45))⟩, ⟨(some (44, true)), (some 47), (.call n_s_l2Good [(.t 46)])⟩, ⟨none, (some 48), (.pick (.t 44) (.t 47) (.k (.v (.bool false))))⟩, ⟨none, (some 49), (.mv (.t 48))⟩, ⟨(some (49, true)), (some 50), (.faddr 7 (.t 1))⟩, ⟨(some (49, true)), (some 51), (.ld true 4 (.t 50))⟩, ⟨(some (49, true)), (some 52), (.call n_s_l4None [(.t 51)])⟩, ⟨(some (49, true)), (some 53), (.mv (.t 52))⟩, ⟨(some (53, false)), (some 54), (.faddr 7 (.t 1))⟩, ⟨(some (53, false)), (some 55), (.ld true 4 (.t 54))⟩, ⟨(some (53, false)), (some 56), (.call n_s_l4Group [(.t 55)])⟩, ⟨(some (49, true)), (some 57), (.pick (.t 53) (.k (.v (.bool true))) (.t 56))⟩, ⟨none, (some 58), (.pick (.t 49) (.t 57) (.k (.v (.bool false))))⟩, ⟨none, (some 2), (.mv (.t 58))⟩]
/-- loop.example/g00884/spec.l5Good -/
def c_s_l5Good : C := (.seq (.reg r_s_l5Good_0 [1]) (.seq (.seq (.reg r_s_l5Good_1 [1, 24]) (.cond (.t 24) (.seq (.reg r_s_l5Good_2 [2]) .ret) .skip)) (.seq (.seq (.reg r_s_l5Good_3 [1, 27]) (.cond (.t 27) (.seq (.reg r_s_l5Good_4 [2]) .ret) .skip)) (.seq (.reg r_s_l5Good_5 [2]) .ret))))
def k_s_l5Good : Nat → List Nat
  | 0 => [1]
  | 1 => [1, 24]
  | 2 => [2]
  | 3 => [1, 27]
  | 4 => [2]
  | 5 => [2]
  | _ => []
theorem fn_s_l5Good : FnC Tryz.prog n_s_l5Good c_s_l5Good [(.tmp 2)] 59 :=
  ⟨Tryz.f132, _, k_s_l5Good, Tryz.func132, rfl, by kernel_rfl, by kernel_rfl, by kernel_rfl, rfl⟩
end Go.Proofs.YtbeoijlggphklaaGreatDoor

/- The compact code of the functions, and that it is theirs: written by a program of this claim. -/
namespace Go.Proofs.YtbeoijlggphklaaGreatDoor
open Go.Abs
set_option maxRecDepth 100000
def r_s_l2Good_0 : List CO := [⟨none, (some 2), (.mv (.k (.v (.bool false))))⟩]
def r_s_l2Good_1 : List CO := [⟨none, (some 3), (.mv (.t 0))⟩, ⟨none, (some 4), (.call n_s_l1In [(.t 3), (.k (.v (.int .i64 (1)))), (.k (.v (.int .i64 (9))))])⟩, ⟨none, (some 2), (.mv (.t 4))⟩]
/-- loop.example/g00884/spec.l2Good -/
def c_s_l2Good : C := (.seq (.reg r_s_l2Good_0 [0]) (.seq (.reg r_s_l2Good_1 [2]) .ret))
def k_s_l2Good : Nat → List Nat
  | 0 => [0]
  | 1 => [2]
  | _ => []
theorem fn_s_l2Good : FnC Tryz.prog n_s_l2Good c_s_l2Good [(.tmp 2)] 5 :=
  ⟨Tryz.f178, _, k_s_l2Good, Tryz.func178, rfl, by kernel_rfl, by kernel_rfl, by kernel_rfl, rfl⟩
def r_i_IsTincture_0 : List CO := [⟨none, (some 2), (.mv (.k (.v (.bool false))))⟩]
def r_i_IsTincture_1 : List CO := [⟨none, (some 3), (.mv (.t 0))⟩, ⟨none, (some 4), (.call n_i_inside [(.t 3), (.k (.v (.int .i64 (1)))), (.k (.v (.int .i64 (9))))])⟩, ⟨none, (some 2), (.mv (.t 4))⟩]
/-- loop.example/g00884/impl.IsTincture -/
def c_i_IsTincture : C := (.seq (.reg r_i_IsTincture_0 [0]) (.seq (.reg r_i_IsTincture_1 [2]) .ret))
def k_i_IsTincture : Nat → List Nat
  | 0 => [0]
  | 1 => [2]
  | _ => []
theorem fn_i_IsTincture : FnC Tryz.prog n_i_IsTincture c_i_IsTincture [(.tmp 2)] 5 :=
  ⟨Tryz.f184, _, k_i_IsTincture, Tryz.func184, rfl, by kernel_rfl, by kernel_rfl, by kernel_rfl, rfl⟩
end Go.Proofs.YtbeoijlggphklaaGreatDoor

/- The compact code of the functions, and that it is theirs: written by a program of this claim. -/
namespace Go.Proofs.YtbeoijlggphklaaGreatDoor
open Go.Abs
set_option maxRecDepth 100000
def r_slices_Index_int_int_0 : List CO := [⟨none, (some 4), (.mv (.k (.v (.int .i64 (0)))))⟩]
def r_slices_Index_int_int_1 : List CO := [⟨none, (some 6), (.mv (.t 0))⟩, ⟨none, (some 7), (.len false (.t 6))⟩, ⟨none, (some 8), (.mv (.k (.v (.int .i64 (0)))))⟩]
def r_slices_Index_int_int_2 : List CO := [⟨none, (some 9), (.bin .lss .none (.t 8) (.t 7))⟩]
def r_slices_Index_int_int_3 : List CO := [⟨none, (some 10), (.mv (.t 8))⟩, ⟨none, (some 5), (.mv (.t 10))⟩]
def r_slices_Index_int_int_4 : List CO := [⟨none, (some 11), (.mv (.t 1))⟩, ⟨none, (some 12), (.mv (.t 0))⟩, ⟨none, (some 13), (.mv (.t 5))⟩, ⟨none, (some 14), (.iaddr 1 (.t 12) (.t 13))⟩, ⟨none, (some 15), (.ld false 1 (.t 14))⟩, ⟨none, (some 16), (.bin .eql .none (.t 11) (.t 15))⟩]
def r_slices_Index_int_int_5 : List CO := [⟨none, (some 17), (.mv (.t 5))⟩, ⟨none, (some 4), (.mv (.t 17))⟩]
def r_slices_Index_int_int_6 : List CO := [⟨none, (some 18), (.bin .add .none (.t 8) (.k (.v (.int .i64 (1)))))⟩, ⟨none, (some 8), (.mv (.t 18))⟩]
def l_slices_Index_int_int_7 : C := (.seq (.reg r_slices_Index_int_int_2 [0, 1, 7, 8, 9]) (.seq (.cond (.t 9) .skip (.exit 0)) (.seq (.block 1 (.seq (.reg r_slices_Index_int_int_3 [0, 1, 5, 7, 8]) (.seq (.reg r_slices_Index_int_int_4 [0, 1, 5, 7, 8, 16]) (.cond (.t 16) (.seq (.reg r_slices_Index_int_int_5 [4]) .ret) .skip)))) (.reg r_slices_Index_int_int_6 [0, 1, 7, 8]))))
def r_slices_Index_int_int_8 : List CO := [⟨none, (some 4), (.mv (.k (.v (.int .i64 (-1)))))⟩]
/-- slices.Index[[]int,int] -/
def c_slices_Index_int_int : C := (.seq (.reg r_slices_Index_int_int_0 [0, 1]) (.seq (.seq (.reg r_slices_Index_int_int_1 [0, 1, 7, 8]) (.block 0 (.loop l_slices_Index_int_int_7))) (.seq (.reg r_slices_Index_int_int_8 [4]) .ret)))
def k_slices_Index_int_int : Nat → List Nat
  | 0 => [0, 1]
  | 1 => [0, 1, 7, 8]
  | 2 => [0, 1, 7, 8, 9]
  | 3 => [0, 1, 5, 7, 8]
  | 4 => [0, 1, 5, 7, 8, 16]
  | 5 => [4]
  | 6 => [0, 1, 7, 8]
  | 7 => [4]
  | _ => []
theorem fn_slices_Index_int_int : FnC Tryz.prog n_slices_Index_int_int c_slices_Index_int_int [(.tmp 4)] 19 :=
  ⟨Tryz.f174, _, k_slices_Index_int_int, Tryz.func174, rfl, by kernel_rfl, by kernel_rfl, by kernel_rfl, rfl⟩
end Go.Proofs.YtbeoijlggphklaaGreatDoor

/- The compact code of the functions, and that it is theirs: written by a program of this claim. -/
namespace Go.Proofs.YtbeoijlggphklaaGreatDoor
open Go.Abs
set_option maxRecDepth 100000
def r_i_inside_0 : List CO := [⟨none, (some 6), (.mv (.k (.v (.bool false))))⟩]
def r_i_inside_1 : List CO := [⟨none, (some 7), (.mv (.t 0))⟩, ⟨none, (some 8), (.mv (.t 1))⟩, ⟨none, (some 9), (.bin .geq .none (.t 7) (.t 8))⟩, ⟨none, (some 10), (.mv (.t 9))⟩, ⟨(some (10, true)), (some 11), (.mv (.t 0))⟩, ⟨(some (10, true)), (some 12), (.mv (.t 2))⟩, ⟨(some (10, true)), (some 13), (.bin .leq .none (.t 11) (.t 12))⟩, ⟨none, (some 14), (.pick (.t 10) (.t 13) (.k (.v (.bool false))))⟩, ⟨none, (some 6), (.mv (.t 14))⟩]
/-- loop.example/g00884/impl.inside -/
def c_i_inside : C := (.seq (.reg r_i_inside_0 [0, 1, 2]) (.seq (.reg r_i_inside_1 [6]) .ret))
def k_i_inside : Nat → List Nat
  | 0 => [0, 1, 2]
  | 1 => [6]
  | _ => []
theorem fn_i_inside : FnC Tryz.prog n_i_inside c_i_inside [(.tmp 6)] 15 :=
  ⟨Tryz.f57, _, k_i_inside, Tryz.func57, rfl, by kernel_rfl, by kernel_rfl, by kernel_rfl, rfl⟩
def r_s_l1In_0 : List CO := [⟨none, (some 6), (.mv (.k (.v (.bool false))))⟩]
def r_s_l1In_1 : List CO := [⟨none, (some 7), (.mv (.t 0))⟩, ⟨none, (some 8), (.mv (.t 1))⟩, ⟨none, (some 9), (.bin .geq .none (.t 7) (.t 8))⟩, ⟨none, (some 10), (.mv (.t 9))⟩, ⟨(some (10, true)), (some 11), (.mv (.t 0))⟩, ⟨(some (10, true)), (some 12), (.mv (.t 2))⟩, ⟨(some (10, true)), (some 13), (.bin .leq .none (.t 11) (.t 12))⟩, ⟨none, (some 14), (.pick (.t 10) (.t 13) (.k (.v (.bool false))))⟩, ⟨none, (some 6), (.mv (.t 14))⟩]
/-- loop.example/g00884/spec.l1In -/
def c_s_l1In : C := (.seq (.reg r_s_l1In_0 [0, 1, 2]) (.seq (.reg r_s_l1In_1 [6]) .ret))
def k_s_l1In : Nat → List Nat
  | 0 => [0, 1, 2]
  | 1 => [6]
  | _ => []
theorem fn_s_l1In : FnC Tryz.prog n_s_l1In c_s_l1In [(.tmp 6)] 15 :=
  ⟨Tryz.f53, _, k_s_l1In, Tryz.func53, rfl, by kernel_rfl, by kernel_rfl, by kernel_rfl, rfl⟩
end Go.Proofs.YtbeoijlggphklaaGreatDoor

/- Contracts of small helpers. -/
set_option linter.unusedVariables false
set_option linter.unusedSimpArgs false
namespace Go.Proofs.YtbeoijlggphklaaGreatDoor
open Go.Abs

/-- A number in bounds. -/
def inR (n lo hi : Int) : Bool := decide (lo ≤ n) && decide (n ≤ hi)
theorem inR_iff {n lo hi : Int} : inR n lo hi = true ↔ lo ≤ n ∧ n ≤ hi := by simp [inR]
theorem inR_not {n lo hi : Int} : inR n lo hi = false ↔ n < lo ∨ hi < n := by
  rw [← Bool.not_eq_true, inR_iff]; omega

theorem i_inside (n lo hi : Int) : PCall Tryz.prog n_i_inside [I n, I lo, I hi] (B (inR n lo hi)) := by
  refine PCall.of fn_i_inside (by simp) ?_
  simp [c_i_inside, r_i_inside_0, r_i_inside_1, inR]
  omega
theorem s_l1In (n lo hi : Int) : PCall Tryz.prog n_s_l1In [I n, I lo, I hi] (B (inR n lo hi)) := by
  refine PCall.of fn_s_l1In (by simp) ?_
  simp [c_s_l1In, r_s_l1In_0, r_s_l1In_1, inR]
  omega

theorem take_succ' {α : Type} {l : List α} {i : Nat} (h : i < l.length) : l.take (i + 1) = l.take i ++ [l[i]] := by simp
theorem drop_cons {α : Type} {l : List α} {i : Nat} (h : i < l.length) : l.drop i = l[i] :: l.drop (i + 1) := List.drop_eq_getElem_cons h

/-! A row of n elements, the first i of which are written. -/
theorem half_get {β : Type} {xs : List β} {z : β} {n i : Nat} (hx : xs.length = i) (h : i < n) : (xs ++ List.replicate (n - i) z)[i]? = some z := by
  rw [List.getElem?_append_right (by omega), hx, Nat.sub_self, List.getElem?_replicate, if_pos (by omega)]
theorem half_set {β : Type} {xs : List β} {z v : β} {n i : Nat} (hx : xs.length = i) (h : i < n) : (xs ++ List.replicate (n - i) z).set i v = (xs ++ [v]) ++ List.replicate (n - (i + 1)) z := by
  rw [List.set_append_right _ _ (by omega), hx, Nat.sub_self]
  obtain ⟨m, e⟩ : ∃ m, n - i = m + 1 := ⟨n - i - 1, by omega⟩
  rw [e, List.replicate_succ, List.set_cons_zero, show n - (i + 1) = m from by omega]
  simp

theorem app_set {β : Type} {xs ys : List β} {v w : β} {i : Nat} (hx : xs.length = i) : (xs ++ v :: ys).set i w = xs ++ w :: ys := by subst hx; simp
theorem app_get {β : Type} {xs ys : List β} {v : β} {i : Nat} (hx : xs.length = i) : (xs ++ v :: ys)[i]? = some v := by subst hx; simp

theorem all_take_succ {α : Type} {p : α → Bool} {l : List α} {i : Nat} (h : i < l.length) : (l.take (i + 1)).all p = ((l.take i).all p && p l[i]) := by
  rw [take_succ' h, List.all_append]; simp only [List.all_cons, List.all_nil, Bool.and_true]
theorem all_false {α : Type} {p : α → Bool} {l : List α} {i : Nat} (h : i < l.length) (hp : p l[i] = false) : l.all p = false := by
  rw [← Bool.not_eq_true, List.all_eq_true]
  intro h'
  rw [h' _ (List.getElem_mem h)] at hp; cases hp

/-- The sum of the lengths of rows. -/
def total {α : Type} (l : List (List α)) : Nat := (l.map List.length).sum
@[simp] theorem total_nil {α : Type} : total ([] : List (List α)) = 0 := rfl
@[simp] theorem total_cons {α : Type} (r : List α) (l : List (List α)) : total (r :: l) = r.length + total l := by simp [total]
@[simp] theorem total_append {α : Type} (a b : List (List α)) : total (a ++ b) = total a + total b := by simp [total]
theorem total_take_le {α : Type} (l : List (List α)) (i : Nat) : total (l.take i) ≤ total l := by
  have : total l = total (l.take i) + total (l.drop i) := by rw [← total_append, List.take_append_drop]
  omega
theorem total_mem {α : Type} {l : List (List α)} {r : List α} (h : r ∈ l) : r.length ≤ total l := by
  induction l with
  | nil => cases h
  | cons x l ih =>
    rw [total_cons]
    rcases List.mem_cons.1 h with rfl | h
    · omega
    · have := ih h; omega

/-- What is left of a budget. -/
def rest (left : Int) (n : Nat) : Int := if left - n < 0 then -1 else left - n
theorem rest_nonneg {left : Int} {n : Nat} (h : ¬ rest left n < 0) : (n : Int) ≤ left := by
  unfold rest at h; split at h <;> omega

theorem allIx_succ (q : Nat → Bool) (i : Nat) : (List.range (i + 1)).all q = ((List.range i).all q && q i) := by
  simp only [List.range_succ, List.all_append, List.all_cons, List.all_nil, Bool.and_true]
theorem allIx_false {q : Nat → Bool} {n i : Nat} (h : i < n) (hq : q i = false) : (List.range n).all q = false := by
  rw [← Bool.not_eq_true, List.all_eq_true]
  intro h'
  rw [h' i (List.mem_range.2 h)] at hq; cases hq
end Go.Proofs.YtbeoijlggphklaaGreatDoor

/- Contracts of library functions on rows: looking for an element. -/
set_option linter.unusedVariables false
set_option linter.unusedSimpArgs false
namespace Go.Proofs.YtbeoijlggphklaaGreatDoor
open Go.Abs

/-- The place of the first element for which something holds, or -1. -/
def idx {α : Type} (p : α → Bool) (l : List α) : Int := if l.findIdx p < l.length then (l.findIdx p : Nat) else -1
theorem idx_at {α : Type} {p : α → Bool} {l : List α} {i : Nat} (hi : i < l.length) (h : ∀ j (_ : j < i), p (l[j]'(by omega)) = false) (hp : p l[i] = true) : idx p l = i := by
  have e : l.findIdx p = i := (List.findIdx_eq hi).2 ⟨hp, h⟩
  simp [idx, e, hi]
theorem idx_none {α : Type} {p : α → Bool} {l : List α} (h : ∀ j (_ : j < l.length), p l[j] = false) : idx p l = -1 := by
  have e : l.findIdx p = l.length := by
    rw [List.findIdx_eq_length]
    intro x hx
    obtain ⟨j, hj, rfl⟩ := List.getElem_of_mem hx
    exact h j hj
  simp [idx, e]
theorem idx_any {α : Type} {p : α → Bool} {l : List α} : decide (0 ≤ idx p l) = l.any p := by
  rw [Bool.eq_iff_iff, decide_eq_true_iff, List.any_eq_true]
  unfold idx
  constructor
  · intro h
    split at h
    · rename_i hlt
      exact ⟨_, List.getElem_mem hlt, List.findIdx_getElem⟩
    · omega
  · rintro ⟨x, hx, hp⟩
    rw [if_pos (List.findIdx_lt_length_of_exists ⟨x, hx, hp⟩)]
    omega
theorem idx_neg {α : Type} {p : α → Bool} {l : List α} : idx p l < 0 ↔ l.any p = false := by
  rw [← idx_any, decide_eq_false_iff_not]; omega
theorem idx_lt {α : Type} {p : α → Bool} {l : List α} (h : 0 ≤ idx p l) : ∃ i : Nat, idx p l = i ∧ ∃ hi : i < l.length, p l[i] = true ∧ ∀ j (hj : j < i), p (l[j]'(by omega)) = false := by
  unfold idx at h ⊢
  split at h
  · rename_i hlt
    rw [if_pos hlt]
    exact ⟨_, rfl, hlt, List.findIdx_getElem, fun j hj => by simpa using List.not_of_lt_findIdx hj⟩
  · omega

theorem slices_Index_int_int (l : List Int) (x : Int) : PCall Tryz.prog n_slices_Index_int_int [.ro 1 (ints l), I x] (I (idx (fun y => decide (y = x)) l)) := by
  refine PCall.ofL fn_slices_Index_int_int (by simp) fun hl => ?_
  simp at hl
  simp [c_slices_Index_int_int, r_slices_Index_int_int_0, r_slices_Index_int_int_1, r_slices_Index_int_int_8]
  refine loopQ_ix (fun i : Nat => ⟨[(0, .ro 1 (ints l)), (1, I x), (7, I l.length), (8, I i)], [], []⟩) (fun i => l.length - i) (fun i => i ≤ l.length ∧ ∀ j (_ : j < i) (hj : j < l.length), decide (l[j] = x) = false) 0 (Wk.list rfl (by simp) (by simp)) (by simp) ?_
  rintro i ⟨hi, hj⟩
  simp [r_slices_Index_int_int_2, l_slices_Index_int_int_7]
  refine ⟨fun hlt => ?_, fun hge => ?_⟩
  · simp [r_slices_Index_int_int_3, r_slices_Index_int_int_4, hlt]
    refine ⟨fun ht => ?_, fun hf => ?_⟩
    · simp [r_slices_Index_int_int_5]
      exact (idx_at hlt (fun j h => hj j h (by omega)) (by simpa using ht.symm)).symm
    · simp [r_slices_Index_int_int_6]
      rw [wrap64 (by omega) (by omega)]
      refine roundA_of (i + 1) (by omega) ⟨by omega, fun j h h' => ?_⟩ (Wk.list rfl (by simp) (by simp))
      by_cases e : j = i
      · subst e; simpa using fun h => hf h.symm
      · simpa using hj j (by omega) h'
  · have : idx (fun y => decide (y = x)) l = -1 := idx_none fun j h => hj j (by omega) h
    simp [this]

/-- The smallest of a row that is not empty. -/
def minL (l : List Int) : Int := l.min?.getD 0
theorem minL_of {l : List Int} {x : Int} (hm : x ∈ l) (h : ∀ y ∈ l, x ≤ y) : minL l = x := by
  have : l.min? = some x := List.min?_eq_some_iff.2 ⟨hm, h⟩
  simp [minL, this]
theorem take_one_head {l : List Int} (h : 0 < l.length) : (l.take 1).min?.getD 0 = l[0] := by
  cases l with
  | nil => simp at h
  | cons x r => simp [List.min?]
theorem min_take_succ {l : List Int} {i : Nat} (h0 : 1 ≤ i) (h : i < l.length) : (l.take (i + 1)).min?.getD 0 = min ((l.take i).min?.getD 0) l[i] := by
  cases l with
  | nil => simp at h
  | cons x r =>
    obtain ⟨i, rfl⟩ : ∃ k, i = k + 1 := ⟨i - 1, by omega⟩
    have hi : i < r.length := by simpa using h
    rw [List.take_succ_cons, List.take_succ_cons, ← List.take_append_getElem hi]
    simp only [List.min?, Option.getD_some, List.foldl_append]
    rfl
end Go.Proofs.YtbeoijlggphklaaGreatDoor

/- The test of a banner, in the program and in the reference. -/
set_option linter.unusedVariables false
set_option linter.unusedSimpArgs false
namespace Go.Proofs.YtbeoijlggphklaaGreatDoor
open Go.Abs

theorem s_l2Good (x : Int) : PCall Tryz.prog n_s_l2Good [I x] (B (inR x 1 9)) := by
  refine PCall.of fn_s_l2Good (by simp) ?_
  simp [c_s_l2Good, r_s_l2Good_0, r_s_l2Good_1]
  exact callQ_v (s_l1In ..) (by simp)
theorem i_IsTincture (x : Int) : PCall Tryz.prog n_i_IsTincture [I x] (B (inR x 1 9)) := by
  refine PCall.of fn_i_IsTincture (by simp) ?_
  simp [c_i_IsTincture, r_i_IsTincture_0, r_i_IsTincture_1]
  exact callQ_v (i_inside ..) (by simp)
/-- A valid row of a banner whose rows have n cells. -/
def rowOk (n : Nat) (r : List Int) : Bool := decide (r.length = n) && r.all fun x => inR x 1 9
/-- How many columns a banner has. -/
def wide (b : List (List Int)) : Nat := (b.headD []).length
theorem wide_get {b : List (List Int)} (h : 0 < b.length) : wide b = b[0].length := by
  cases b with
  | nil => simp at h
  | cons x b => rfl
/-- A valid banner. -/
def banner (b : List (List Int)) : Bool := inR b.length 1 60 && inR (wide b) 1 60 && b.all (rowOk (wide b))

end Go.Proofs.YtbeoijlggphklaaGreatDoor

/- Fields, groups of charges, arms: the tests, the layers; in the program and in the reference. -/
set_option linter.unusedVariables false
set_option linter.unusedSimpArgs false
namespace Go.Proofs.YtbeoijlggphklaaGreatDoor
open Go.Abs

structure Field where
  division : Int
  line : Int
  first : Int
  second : Int
  deriving DecidableEq
structure Group where
  count : Int
  kind : Int
  attitude : Int
  tincture : Int
  deriving DecidableEq
structure Arms where
  field : Field
  ordinary : Int
  line : Int
  tincture : Int
  on : Group
  around : Group
  deriving DecidableEq
abbrev eField (f : Field) : V := .agg [I f.division, I f.line, I f.first, I f.second]
abbrev eGroup (g : Group) : V := .agg [I g.count, I g.kind, I g.attitude, I g.tincture]
abbrev eArms (a : Arms) : V := .agg [I a.field.division, I a.field.line, I a.field.first, I a.field.second, I a.ordinary, I a.line, I a.tincture,
  I a.on.count, I a.on.kind, I a.on.attitude, I a.on.tincture, I a.around.count, I a.around.kind, I a.around.attitude, I a.around.tincture]

theorem w_toField (f : Field) : PCall Tryz.prog n_w_toField [eField f] (eField f) := by
  refine PCall.of fn_w_toField (by simp) ?_
  simp [c_w_toField, r_w_toField_0, r_w_toField_1, r_w_toField_2, r_w_toField_3, r_w_toField_4, r_w_toField_5, r_w_toField_6]
theorem w_toGroup (g : Group) : PCall Tryz.prog n_w_toGroup [eGroup g] (eGroup g) := by
  refine PCall.of fn_w_toGroup (by simp) ?_
  simp [c_w_toGroup, r_w_toGroup_0, r_w_toGroup_1, r_w_toGroup_2, r_w_toGroup_3, r_w_toGroup_4, r_w_toGroup_5, r_w_toGroup_6]
theorem w_toArms (a : Arms) : PCall Tryz.prog n_w_toArms [eArms a] (eArms a) := by
  refine PCall.of fn_w_toArms (by simp) ?_
  simp [c_w_toArms, r_w_toArms_0, r_w_toArms_1, r_w_toArms_2]
  refine callQ_of (PCall.arg (w_toField a.field) (by simp)) rfl (.inl (by simp)) (by simp) ?_
  simp [r_w_toArms_3, r_w_toArms_4, r_w_toArms_5, r_w_toArms_6]
  refine callQ_of (PCall.arg (w_toGroup a.on) (by simp)) rfl (.inl (by simp)) (by simp) ?_
  simp [r_w_toArms_7]
  refine callQ_of (PCall.arg (w_toGroup a.around) (by simp)) rfl (.inl (by simp)) (by simp) ?_
  simp [r_w_toArms_8]

/-! ### The tests -/
def fieldOk (f : Field) : Bool := inR f.division 0 7 && inR f.line 0 4 && inR f.first 1 9 && (if f.division = 0 then f.line == 0 && f.second == 0 else inR f.second 1 9 && f.second != f.first)
def groupOk (g : Group) : Bool := inR g.count 1 6 && inR g.kind 1 8 && inR g.tincture 1 9 && (if g.kind ≤ 3 then inR g.attitude 1 2 else g.attitude == 0)
/-- No group. -/
def g0 (g : Group) : Bool := g.count == 0 && (g.kind == 0 && (g.attitude == 0 && g.tincture == 0))
def arms (a : Arms) : Bool := fieldOk a.field && (g0 a.around || groupOk a.around) && (if a.ordinary = 0 then a.line == 0 && a.tincture == 0 && g0 a.on else inR a.ordinary 1 7 && inR a.line 0 4 && inR a.tincture 1 9 && (g0 a.on || groupOk a.on))
def bit (b : Bool) : Int := if b then 1 else 0
def layers (a : Arms) : Int := 1 + bit (a.ordinary != 0) + bit (!g0 a.on) + bit (!g0 a.around)
theorem layers_bounds (a : Arms) : 1 ≤ layers a ∧ layers a ≤ 4 := by
  unfold layers bit
  split <;> split <;> split <;> omega

theorem i_isLine (x : Int) : PCall Tryz.prog n_i_isLine [I x] (B (inR x 0 4)) := by
  refine PCall.of fn_i_isLine (by simp) ?_
  simp [c_i_isLine, r_i_isLine_0, r_i_isLine_1]
  exact callQ_v (i_inside ..) (by simp)
theorem i_isKind (x : Int) : PCall Tryz.prog n_i_isKind [I x] (B (inR x 1 8)) := by
  refine PCall.of fn_i_isKind (by simp) ?_
  simp [c_i_isKind, r_i_isKind_0, r_i_isKind_1]
  exact callQ_v (i_inside ..) (by simp)
theorem s_l3Line (x : Int) : PCall Tryz.prog n_s_l3Line [I x] (B (inR x 0 4)) := by
  refine PCall.of fn_s_l3Line (by simp) ?_
  simp [c_s_l3Line, r_s_l3Line_0, r_s_l3Line_1]
  exact callQ_v (s_l1In ..) (by simp)
theorem s_l4Kind (x : Int) : PCall Tryz.prog n_s_l4Kind [I x] (B (inR x 1 8)) := by
  refine PCall.of fn_s_l4Kind (by simp) ?_
  simp [c_s_l4Kind, r_s_l4Kind_0, r_s_l4Kind_1]
  exact callQ_v (s_l1In ..) (by simp)
theorem s_l4Beast (x : Int) : PCall Tryz.prog n_s_l4Beast [I x] (B (decide (x ≤ 3))) := by
  refine PCall.of fn_s_l4Beast (by simp) ?_
  simp [c_s_l4Beast, r_s_l4Beast_0, r_s_l4Beast_1]
theorem s_l4None (g : Group) : PCall Tryz.prog n_s_l4None [eGroup g] (B (g0 g)) := by
  refine PCall.of fn_s_l4None (by simp) ?_
  simp [c_s_l4None, r_s_l4None_0, r_s_l4None_1, g0]
theorem i_number (b : Bool) : PCall Tryz.prog n_i_number [B b] (I (bit b)) := by
  refine PCall.of fn_i_number (by simp) ?_
  cases b <;> simp [c_i_number, r_i_number_0, r_i_number_1, r_i_number_2, r_i_number_3, bit]

/-- The words of the attitudes of a kind. -/
def attitudes (k : Int) : List (List UInt8) := if k = 1 then [[114, 97, 109, 112, 97, 110, 116], [112, 97, 115, 115, 97, 110, 116]] else if k = 2 then [[100, 105, 115, 112, 108, 97, 121, 101, 100], [114, 105, 115, 105, 110, 103]] else if k = 3 then [[115, 119, 105, 109, 109, 105, 110, 103], [117, 112, 114, 105, 103, 104, 116]] else []
theorem attitudes_len (k : Int) : ((attitudes k).length : Int) = if 1 ≤ k ∧ k ≤ 3 then 2 else 0 := by
  unfold attitudes
  split
  · rw [if_pos (by omega)]; rfl
  · split
    · rw [if_pos (by omega)]; rfl
    · split
      · rw [if_pos (by omega)]; rfl
      · rw [if_neg (by omega)]; rfl
theorem i_attitudes (k : Int) : PCall Tryz.prog n_i_attitudes [I k] (.own 1 ((attitudes k).map S)) := by
  refine PCall.of fn_i_attitudes (by simp) ?_
  by_cases h1 : k = 1
  · simp [c_i_attitudes, r_i_attitudes_0, r_i_attitudes_1, r_i_attitudes_2, r_i_attitudes_3, r_i_attitudes_4, r_i_attitudes_5, r_i_attitudes_6, r_i_attitudes_7, r_i_attitudes_8, h1, attitudes]
  by_cases h2 : k = 2
  · simp [c_i_attitudes, r_i_attitudes_0, r_i_attitudes_1, r_i_attitudes_2, r_i_attitudes_3, r_i_attitudes_4, r_i_attitudes_5, r_i_attitudes_6, r_i_attitudes_7, r_i_attitudes_8, h2, attitudes]
  by_cases h3 : k = 3
  · simp [c_i_attitudes, r_i_attitudes_0, r_i_attitudes_1, r_i_attitudes_2, r_i_attitudes_3, r_i_attitudes_4, r_i_attitudes_5, r_i_attitudes_6, r_i_attitudes_7, r_i_attitudes_8, h3, attitudes]
  simp [c_i_attitudes, r_i_attitudes_0, r_i_attitudes_1, r_i_attitudes_2, r_i_attitudes_3, r_i_attitudes_4, r_i_attitudes_5, r_i_attitudes_6, r_i_attitudes_7, r_i_attitudes_8, h1, h2, h3, attitudes]

theorem s_l3Good (f : Field) : PCall Tryz.prog n_s_l3Good [eField f] (B (fieldOk f)) := by
  refine PCall.of fn_s_l3Good (by simp) ?_
  simp [c_s_l3Good, r_s_l3Good_0, r_s_l3Good_1]
  refine callQ_v (s_l1In ..) ?_
  cases h1 : inR f.division 0 7 with
  | false => simp [r_s_l3Good_2, fieldOk, h1]
  | true =>
  simp
  refine callQ_v (s_l3Line ..) ?_
  cases h2 : inR f.line 0 4 with
  | false => simp [r_s_l3Good_2, fieldOk, h2]
  | true =>
  simp
  refine callQ_v (s_l2Good ..) ?_
  cases h3 : inR f.first 1 9 with
  | false => simp [r_s_l3Good_2, fieldOk, h3]
  | true =>
  simp [r_s_l3Good_3]
  refine ⟨fun h4 => ?_, fun h4 => ?_⟩
  · by_cases h5 : f.line = 0
    · simp [r_s_l3Good_4, fieldOk, h1, h2, h3, h4, h5, show inR 0 0 7 = true from rfl, show inR 0 0 4 = true from rfl]
    · simp [r_s_l3Good_4, fieldOk, h1, h2, h3, h4, h5]
  · simp [r_s_l3Good_5]
    refine callQ_v (s_l2Good ..) ?_
    cases h5 : inR f.second 1 9 with
    | false => simp [fieldOk, h1, h2, h3, h4, h5]
    | true =>
      simp [fieldOk, h1, h2, h3, h4, h5]

theorem i_IsValidField (f : Field) : PCall Tryz.prog n_i_IsValidField [eField f] (B (fieldOk f)) := by
  refine PCall.of fn_i_IsValidField (by simp) ?_
  simp [c_i_IsValidField, r_i_IsValidField_0, r_i_IsValidField_1]
  refine callQ_v (i_inside ..) ?_
  cases h1 : inR f.division 0 7 with
  | false => simp [r_i_IsValidField_2, fieldOk, h1]
  | true =>
  simp
  refine callQ_v (i_isLine ..) ?_
  cases h2 : inR f.line 0 4 with
  | false => simp [r_i_IsValidField_2, fieldOk, h2]
  | true =>
  simp
  refine callQ_v (i_IsTincture ..) ?_
  cases h3 : inR f.first 1 9 with
  | false => simp [r_i_IsValidField_2, fieldOk, h3]
  | true =>
  simp [r_i_IsValidField_3]
  refine ⟨fun h4 => ?_, fun h4 => ?_⟩
  · by_cases h5 : f.line = 0
    · simp [r_i_IsValidField_4, fieldOk, h1, h2, h3, h4, h5, show inR 0 0 7 = true from rfl, show inR 0 0 4 = true from rfl]
    · simp [r_i_IsValidField_4, fieldOk, h1, h2, h3, h4, h5]
  · simp [r_i_IsValidField_5]
    refine callQ_v (i_IsTincture ..) ?_
    cases h5 : inR f.second 1 9 with
    | false => simp [fieldOk, h1, h2, h3, h4, h5]
    | true =>
      simp [fieldOk, h1, h2, h3, h4, h5]

theorem s_l4Group (g : Group) : PCall Tryz.prog n_s_l4Group [eGroup g] (B (groupOk g)) := by
  refine PCall.of fn_s_l4Group (by simp) ?_
  simp [c_s_l4Group, r_s_l4Group_0, r_s_l4Group_1]
  refine callQ_v (s_l1In ..) ?_
  cases h1 : inR g.count 1 6 with
  | false => simp [r_s_l4Group_2, groupOk, h1]
  | true =>
  simp
  refine callQ_v (s_l4Kind ..) ?_
  cases h2 : inR g.kind 1 8 with
  | false => simp [r_s_l4Group_2, groupOk, h2]
  | true =>
  simp
  refine callQ_v (s_l2Good ..) ?_
  cases h3 : inR g.tincture 1 9 with
  | false => simp [r_s_l4Group_2, groupOk, h3]
  | true =>
  simp [r_s_l4Group_3]
  refine callQ_v (s_l4Beast ..) ?_
  simp
  refine ⟨fun h4 => ?_, fun h4 => ?_⟩
  · simp [r_s_l4Group_4]
    refine callQ_v (s_l1In ..) ?_
    simp [groupOk, h1, h2, h3, h4]
  · have h4' : ¬ g.kind ≤ 3 := by omega
    simp [r_s_l4Group_5, groupOk, h1, h2, h3, h4']

theorem i_IsValidGroup (g : Group) : PCall Tryz.prog n_i_IsValidGroup [eGroup g] (B (groupOk g)) := by
  refine PCall.of fn_i_IsValidGroup (by simp) ?_
  simp [c_i_IsValidGroup, r_i_IsValidGroup_0, r_i_IsValidGroup_1]
  refine callQ_v (i_inside ..) ?_
  cases h1 : inR g.count 1 6 with
  | false => simp [r_i_IsValidGroup_2, groupOk, h1]
  | true =>
  simp
  refine callQ_v (i_isKind ..) ?_
  cases h2 : inR g.kind 1 8 with
  | false => simp [r_i_IsValidGroup_2, groupOk, h2]
  | true =>
  have h2' := inR_iff.1 h2
  simp
  refine callQ_v (i_IsTincture ..) ?_
  cases h3 : inR g.tincture 1 9 with
  | false => simp [r_i_IsValidGroup_2, groupOk, h3]
  | true =>
  simp [r_i_IsValidGroup_3]
  have hl := attitudes_len g.kind
  have hc := i_attitudes g.kind
  generalize attitudes g.kind = l at hl hc
  refine callQ_of (PCall.arg hc (by simp)) rfl (.inl (by simp)) (by simp) ?_
  simp [hl]
  by_cases h4 : g.kind ≤ 3
  · simp [r_i_IsValidGroup_4, r_i_IsValidGroup_5, hl, h2', h4]
    refine callQ_v (i_inside ..) ?_
    simp [groupOk, h1, h2, h3, h4]
  · simp [r_i_IsValidGroup_4, hl, h2', h4]
    simp [r_i_IsValidGroup_6, groupOk, h1, h2, h3, h4]

theorem i_isGroup (g : Group) : PCall Tryz.prog n_i_isGroup [eGroup g] (B (g0 g || groupOk g)) := by
  refine PCall.of fn_i_isGroup (by simp) ?_
  cases h : g0 g with
  | true =>
    have e : (g.count == 0 && (g.kind == 0 && (g.attitude == 0 && g.tincture == 0))) = true := h
    simp only [Bool.and_eq_true, beq_iff_eq] at e
    obtain ⟨e1, e2, e3, e4⟩ := e
    simp [c_i_isGroup, r_i_isGroup_0, r_i_isGroup_1, e1, e2, e3, e4]
  | false =>
    have e : (g.count == 0 && (g.kind == 0 && (g.attitude == 0 && g.tincture == 0))) = false := h
    simp [c_i_isGroup, r_i_isGroup_0, r_i_isGroup_1, e]
    exact callQ_v (PCall.arg (i_IsValidGroup g) (by simp)) (by simp)
theorem i_isOrdinary (x l t : Int) : PCall Tryz.prog n_i_isOrdinary [I x, I l, I t] (B (inR x 1 7 && inR l 0 4 && inR t 1 9)) := by
  refine PCall.of fn_i_isOrdinary (by simp) ?_
  simp [c_i_isOrdinary, r_i_isOrdinary_0, r_i_isOrdinary_1]
  refine callQ_v (i_inside ..) ?_
  cases h1 : inR x 1 7 with
  | false => simp
  | true =>
  simp
  refine callQ_v (i_isLine ..) ?_
  cases h2 : inR l 0 4 with
  | false => simp
  | true =>
  simp
  exact callQ_v (i_IsTincture ..) (by simp)

theorem i_IsValidArms (a : Arms) : PCall Tryz.prog n_i_IsValidArms [eArms a] (B (arms a)) := by
  refine PCall.of fn_i_IsValidArms (by simp) ?_
  simp [c_i_IsValidArms, r_i_IsValidArms_0, r_i_IsValidArms_1]
  refine callQ_v (PCall.arg (i_IsValidField a.field) (by simp)) ?_
  cases h1 : fieldOk a.field with
  | false => simp [r_i_IsValidArms_2, arms, h1]
  | true =>
  simp
  refine callQ_v (PCall.arg (i_isGroup a.around) (by simp)) ?_
  cases h2 : (g0 a.around || groupOk a.around) with
  | false => simp [r_i_IsValidArms_2, arms, h2]
  | true =>
  simp [r_i_IsValidArms_3]
  refine ⟨fun h3 => ?_, fun h3 => ?_⟩
  · have e : (a.on.count == 0 && (a.on.kind == 0 && (a.on.attitude == 0 && a.on.tincture == 0))) = g0 a.on := rfl
    by_cases h4 : a.line = 0
    · by_cases h5 : a.tincture = 0
      · simp [r_i_IsValidArms_4, h4, h5, e]
        simp [arms, h1, h2, h3, h4, h5]
      · simp [r_i_IsValidArms_4, h4, h5, arms, h3]
    · simp [r_i_IsValidArms_4, h4, arms, h3]
  · simp [r_i_IsValidArms_5]
    refine callQ_v (i_isOrdinary ..) ?_
    cases h4 : (inR a.ordinary 1 7 && inR a.line 0 4 && inR a.tincture 1 9) with
    | false =>
      have : arms a = false := by simp only [arms, h3, if_false, h4, Bool.false_and, Bool.and_false]
      simp [this]
    | true =>
      simp
      refine callQ_v (PCall.arg (i_isGroup a.on) (by simp)) ?_
      have : arms a = (g0 a.on || groupOk a.on) := by simp only [arms, h1, h2, h3, if_false, h4, Bool.true_and]
      simp [this]

theorem s_l5Good (a : Arms) : PCall Tryz.prog n_s_l5Good [eArms a] (B (arms a)) := by
  refine PCall.of fn_s_l5Good (by simp) ?_
  simp [c_s_l5Good, r_s_l5Good_0, r_s_l5Good_1]
  refine callQ_v (PCall.arg (s_l3Good a.field) (by simp)) ?_
  cases h1 : fieldOk a.field with
  | false => simp [r_s_l5Good_2, arms, h1]
  | true =>
  simp
  refine callQ_v (s_l1In ..) ?_
  cases h0 : inR a.ordinary 0 7 with
  | false =>
    have h0' := inR_not.1 h0
    have h3 : ¬ a.ordinary = 0 := by omega
    have h4 : inR a.ordinary 1 7 = false := inR_not.2 (by omega)
    simp [r_s_l5Good_2, arms, h3, h4]
  | true =>
  have h0' := inR_iff.1 h0
  simp
  refine callQ_v (PCall.arg (s_l4None a.around) (by simp)) ?_
  cases hN : g0 a.around with
  | true =>
    have hA : (g0 a.around || groupOk a.around) = true := by rw [hN]; rfl
    simp [r_s_l5Good_3]
    refine ⟨fun h3 => ?_, fun h3 => ?_⟩
    · by_cases h4 : a.line = 0
      · by_cases h5 : a.tincture = 0
        · simp [r_s_l5Good_4, h4, h5]
          refine callQ_v (PCall.arg (s_l4None a.on) (by simp)) ?_
          simp [arms, h1, hA, h3, h4, h5]
        · simp [r_s_l5Good_4, h4, h5, arms, h3]
      · simp [r_s_l5Good_4, h4, arms, h3]
    · have h0 : inR a.ordinary 1 7 = true := inR_iff.2 (by omega)
      simp [r_s_l5Good_5]
      refine callQ_v (s_l3Line ..) ?_
      cases h4 : inR a.line 0 4 with
      | false => simp [arms, h3, h4]
      | true =>
      simp
      refine callQ_v (s_l2Good ..) ?_
      cases h5 : inR a.tincture 1 9 with
      | false => simp [arms, h3, h5]
      | true =>
      simp
      refine callQ_v (PCall.arg (s_l4None a.on) (by simp)) ?_
      cases h6 : g0 a.on with
      | true => simp [arms, h0, h1, hA, h3, h4, h5, h6]
      | false =>
      simp
      refine callQ_v (PCall.arg (s_l4Group a.on) (by simp)) ?_
      simp [arms, h0, h1, hA, h3, h4, h5, h6]
  | false =>
    simp
    refine callQ_v (PCall.arg (s_l4Group a.around) (by simp)) ?_
    cases hG : groupOk a.around with
    | false => simp [r_s_l5Good_2, arms, hN, hG]
    | true =>
      have hA : (g0 a.around || groupOk a.around) = true := by rw [hN, hG]; rfl
      simp [r_s_l5Good_3]
      refine ⟨fun h3 => ?_, fun h3 => ?_⟩
      · by_cases h4 : a.line = 0
        · by_cases h5 : a.tincture = 0
          · simp [r_s_l5Good_4, h4, h5]
            refine callQ_v (PCall.arg (s_l4None a.on) (by simp)) ?_
            simp [arms, h1, hA, h3, h4, h5]
          · simp [r_s_l5Good_4, h4, h5, arms, h3]
        · simp [r_s_l5Good_4, h4, arms, h3]
      · have h0 : inR a.ordinary 1 7 = true := inR_iff.2 (by omega)
        simp [r_s_l5Good_5]
        refine callQ_v (s_l3Line ..) ?_
        cases h4 : inR a.line 0 4 with
        | false => simp [arms, h3, h4]
        | true =>
        simp
        refine callQ_v (s_l2Good ..) ?_
        cases h5 : inR a.tincture 1 9 with
        | false => simp [arms, h3, h5]
        | true =>
        simp
        refine callQ_v (PCall.arg (s_l4None a.on) (by simp)) ?_
        cases h6 : g0 a.on with
        | true => simp [arms, h0, h1, hA, h3, h4, h5, h6]
        | false =>
        simp
        refine callQ_v (PCall.arg (s_l4Group a.on) (by simp)) ?_
        simp [arms, h0, h1, hA, h3, h4, h5, h6]

/-! ### Fees -/
end Go.Proofs.YtbeoijlggphklaaGreatDoor

/- Differences between arms, in the program and in the reference. -/
set_option linter.unusedVariables false
set_option linter.unusedSimpArgs false
namespace Go.Proofs.YtbeoijlggphklaaGreatDoor
open Go.Abs

def tincts (f : Field) : List Int := if f.division = 0 then [f.first] else [f.first, f.second]
def fieldDiff (a b : Field) : Int := bit (a.division != b.division) + bit (a.line != b.line) + bit (!decide (tincts a = tincts b))
/-- The same group. -/
def geq (a b : Group) : Bool := a.count == b.count && (a.kind == b.kind && (a.attitude == b.attitude && a.tincture == b.tincture))
def groupDiff (a b : Group) : Int := if geq a b then 0 else if g0 a || g0 b then 2 else bit (a.count != b.count) + bit (a.tincture != b.tincture) + (if a.kind = b.kind then bit (a.attitude != b.attitude) else 2)
def diffs (a b : Arms) : Int := fieldDiff a.field b.field + (groupDiff a.on b.on + groupDiff a.around b.around) + (if a.ordinary = b.ordinary then bit (a.line != b.line) + bit (a.tincture != b.tincture) else 2)
theorem bit_bounds (b : Bool) : 0 ≤ bit b ∧ bit b ≤ 1 := by unfold bit; split <;> omega
theorem fieldDiff_bounds (a b : Field) : 0 ≤ fieldDiff a b ∧ fieldDiff a b ≤ 3 := by
  unfold fieldDiff
  have h1 := bit_bounds (a.division != b.division)
  have h2 := bit_bounds (a.line != b.line)
  have h3 := bit_bounds (!decide (tincts a = tincts b))
  omega
theorem groupDiff_bounds (a b : Group) : 0 ≤ groupDiff a b ∧ groupDiff a b ≤ 4 := by
  unfold groupDiff
  have h1 := bit_bounds (a.count != b.count)
  have h2 := bit_bounds (a.tincture != b.tincture)
  have h3 := bit_bounds (a.attitude != b.attitude)
  split
  · omega
  · split
    · omega
    · split <;> omega
theorem tincts_len (f : Field) : (tincts f).length ≤ 2 := by unfold tincts; split <;> simp

theorem i_Field_tinctures (f : Field) : PCall Tryz.prog n_i_Field_tinctures [eField f] (.own 1 ((tincts f).map I)) := by
  refine PCall.of fn_i_Field_tinctures (by simp) ?_
  by_cases h : f.division = 0
  · simp [c_i_Field_tinctures, r_i_Field_tinctures_0, r_i_Field_tinctures_1, r_i_Field_tinctures_2, r_i_Field_tinctures_3, h, tincts]
  · simp [c_i_Field_tinctures, r_i_Field_tinctures_0, r_i_Field_tinctures_1, r_i_Field_tinctures_2, r_i_Field_tinctures_3, h, tincts]
theorem s_l3Tinctures (f : Field) : PCall Tryz.prog n_s_l3Tinctures [eField f] (.own 1 ((tincts f).map I)) := by
  refine PCall.of fn_s_l3Tinctures (by simp) ?_
  by_cases h : f.division = 0
  · simp [c_s_l3Tinctures, r_s_l3Tinctures_0, r_s_l3Tinctures_1, r_s_l3Tinctures_2, r_s_l3Tinctures_3, h, tincts]
  · simp [c_s_l3Tinctures, r_s_l3Tinctures_0, r_s_l3Tinctures_1, r_s_l3Tinctures_2, r_s_l3Tinctures_3, h, tincts]
theorem s_l1Same (a b : List Int) : PCall Tryz.prog n_s_l1Same [.ro 1 (a.map I), .ro 1 (b.map I)] (B (decide (a = b))) := by
  refine PCall.ofL fn_s_l1Same (by simp) fun hl => ?_
  simp at hl
  by_cases hl : a.length = b.length
  · simp [c_s_l1Same, r_s_l1Same_0, r_s_l1Same_1, r_s_l1Same_2, r_s_l1Same_3, r_s_l1Same_9, hl]
    refine loopK (fun i : Nat => ⟨[(0, .ro 1 (a.map I)), (1, .ro 1 (b.map I)), (5, I i)], [], []⟩) (fun i => a.length - i) (fun i => i ≤ a.length ∧ a.take i = b.take i) 0 (Wk.list rfl (by simp) (by simp)) (by simp) ?_
    rintro i ⟨hi, hj⟩ K hN hR hE
    simp [r_s_l1Same_4, l_s_l1Same_8]
    refine ⟨fun hlt => ?_, fun hge => ?_⟩
    · have hlb : i < b.length := by omega
      simp [r_s_l1Same_5, p_s_l1Same_5, hlt, hlb]
      refine ⟨oEnd_of (by first | kernel_rfl | simp) (by first | kernel_rfl | simp), fun hne => ?_, fun he => ?_⟩
      · simp [r_s_l1Same_6]
        refine hR _ ?_
        simp
        rintro rfl
        exact hne rfl
      · simp [r_s_l1Same_7]
        rw [wrap64 (by omega) (by omega)]
        refine hN (i + 1) _ (by omega) ⟨by omega, ?_⟩ (Wk.list rfl (by simp) (by simp))
        rw [take_succ' hlt, take_succ' hlb, hj, he]
    · refine hE _ _ ?_
      rw [List.take_of_length_le (by omega), List.take_of_length_le (by omega)] at hj
      simp [hj]
  · simp [c_s_l1Same, r_s_l1Same_0, r_s_l1Same_1, r_s_l1Same_2, hl]
    refine ⟨fun _ e => hl (by rw [e]), fun e => absurd (by omega) hl⟩
theorem slices_Equal_int_int (a b : List Int) : PCall Tryz.prog n_slices_Equal_int_int [.ro 1 (a.map I), .ro 1 (b.map I)] (B (decide (a = b))) := by
  refine PCall.ofL fn_slices_Equal_int_int (by simp) fun hl => ?_
  simp at hl
  by_cases hl : a.length = b.length
  · simp [c_slices_Equal_int_int, r_slices_Equal_int_int_0, r_slices_Equal_int_int_1, r_slices_Equal_int_int_2, r_slices_Equal_int_int_3, r_slices_Equal_int_int_10, hl]
    refine loopK (fun i : Nat => ⟨[(0, .ro 1 (a.map I)), (1, .ro 1 (b.map I)), (12, I b.length), (13, I i)], [], []⟩) (fun i => a.length - i) (fun i => i ≤ a.length ∧ a.take i = b.take i) 0 (Wk.list rfl (by simp) (by simp)) (by simp) ?_
    rintro i ⟨hi, hj⟩ K hN hR hE
    simp [r_slices_Equal_int_int_4, l_slices_Equal_int_int_9]
    refine ⟨fun hlt => ?_, fun hge => ?_⟩
    · have hla : i < a.length := by omega
      simp [r_slices_Equal_int_int_5, r_slices_Equal_int_int_6, p_slices_Equal_int_int_6, hlt, hla]
      refine ⟨oEnd_of (by first | kernel_rfl | simp) (by first | kernel_rfl | simp), fun hne => ?_, fun he => ?_⟩
      · simp [r_slices_Equal_int_int_7]
        refine hR _ ?_
        simp
        rintro rfl
        exact hne rfl
      · simp [r_slices_Equal_int_int_8]
        rw [wrap64 (by omega) (by omega)]
        refine hN (i + 1) _ (by omega) ⟨by omega, ?_⟩ (Wk.list rfl (by simp) (by simp))
        rw [take_succ' hla, take_succ' hlt, hj, he]
    · refine hE _ _ ?_
      rw [List.take_of_length_le (by omega), List.take_of_length_le (by omega)] at hj
      simp [hj]
  · simp [c_slices_Equal_int_int, r_slices_Equal_int_int_0, r_slices_Equal_int_int_1, r_slices_Equal_int_int_2, hl]
    refine ⟨fun _ e => hl (by rw [e]), fun e => absurd (by omega) hl⟩

theorem i_FieldDifferences (a b : Field) (ha : fieldOk a = true) (hb : fieldOk b = true) : PCall Tryz.prog n_i_FieldDifferences [eField a, eField b] (.tup [I (fieldDiff a b), B true]) := by
  have h1 := bit_bounds (a.division != b.division)
  have h2 := bit_bounds (a.line != b.line)
  have h3 := bit_bounds (!decide (tincts a = tincts b))
  refine PCall.of fn_i_FieldDifferences (by simp) ?_
  simp [c_i_FieldDifferences, r_i_FieldDifferences_0, r_i_FieldDifferences_1]
  refine callQ_v (PCall.arg (i_IsValidField a) (by simp)) ?_
  simp [ha]
  refine callQ_v (PCall.arg (i_IsValidField b) (by simp)) ?_
  simp [hb]
  simp [r_i_FieldDifferences_3, p_i_FieldDifferences_3]
  refine callD_v (i_number (a.division != b.division)) ?_ ?_ ?_
  · simp
  · simp
  simp
  refine callD_v (i_number (a.line != b.line)) ?_ ?_ ?_
  · simp
  · simp
  simp
  refine callD_of (PCall.arg (i_Field_tinctures a) (by simp)) rfl (.inl (by simp)) ?_ ?_ ?_
  · simp
  · simp
  simp
  refine callD_of (PCall.arg (i_Field_tinctures b) (by simp)) rfl (.inl (by simp)) ?_ ?_ ?_
  · simp
  · simp
  simp
  refine callD_v (PCall.arg (slices_Equal_int_int (tincts a) (tincts b)) (by simp [List.take_of_length_le])) ?_ ?_ ?_
  · simp
  · simp
  simp
  refine callD_v (i_number (!decide (tincts a = tincts b))) ?_ ?_ ?_
  · simp
  · simp
  simp
  rw [wrap64 (n := bit (a.division != b.division) + bit (a.line != b.line)) (by omega) (by omega), wrap64 (by omega) (by omega)]
  exact ⟨oEnd_of (by simp [p_i_FieldDifferences_3]) (by simp), rfl⟩
theorem s_l3Differences (a b : Field) : PCall Tryz.prog n_s_l3Differences [eField a, eField b] (I (fieldDiff a b)) := by
  refine PCall.of fn_s_l3Differences (by simp) ?_
  unfold fieldDiff
  by_cases h1 : a.division = b.division <;> by_cases h2 : a.line = b.line
  all_goals
    simp [c_s_l3Differences, r_s_l3Differences_0, r_s_l3Differences_1, r_s_l3Differences_2, h1]
    simp [r_s_l3Differences_3, r_s_l3Differences_4, h1, h2]
    simp [r_s_l3Differences_5, r_s_l3Differences_6, p_s_l3Differences_6, h1, h2]
    try rw [show IntKind.i64.wrap 1 = 1 from rfl]
    try rw [show IntKind.i64.wrap (1 + 1) = 2 from rfl]
    refine callD_of (PCall.arg (s_l3Tinctures a) (by simp)) rfl (.inl (by simp)) ?_ ?_ ?_
    · simp
    · simp
    simp
    refine callD_of (PCall.arg (s_l3Tinctures b) (by simp)) rfl (.inl (by simp)) ?_ ?_ ?_
    · simp
    · simp
    simp
    refine callD_v (PCall.arg (s_l1Same (tincts a) (tincts b)) (by simp [List.take_of_length_le])) ?_ ?_ ?_
    · simp
    · simp
    simp
    refine ⟨oEnd_of (by simp [p_s_l3Differences_6]) (by simp), ?_⟩
    by_cases h3 : tincts a = tincts b
    · simp [r_s_l3Differences_8, h1, h2, h3, bit]
    · simp [r_s_l3Differences_7, h3]
      rw [wrap64 (by omega) (by omega)]
      simp [r_s_l3Differences_8, h1, h2, h3, bit]

theorem geq_iff {a b : Group} : geq a b = true ↔ a = b := by
  cases a; cases b; simp [geq]
theorem geq_ne {a b : Group} (h : geq a b = false) : ¬ a = b := fun e => by rw [geq_iff.2 e] at h; cases h
theorem i_groupDifferences (a b : Group) : PCall Tryz.prog n_i_groupDifferences [eGroup a, eGroup b] (I (groupDiff a b)) := by
  have h1 := bit_bounds (a.count != b.count)
  have h2 := bit_bounds (a.tincture != b.tincture)
  have h3 := bit_bounds (a.attitude != b.attitude)
  refine PCall.of fn_i_groupDifferences (by simp) ?_
  unfold groupDiff
  cases h : geq a b with
  | true =>
    have e := geq_iff.1 h
    subst e
    simp [c_i_groupDifferences, r_i_groupDifferences_0, r_i_groupDifferences_1, r_i_groupDifferences_2]
  | false =>
  have e : (a.count == b.count && (a.kind == b.kind && (a.attitude == b.attitude && a.tincture == b.tincture))) = false := h
  simp [c_i_groupDifferences, r_i_groupDifferences_0, r_i_groupDifferences_1, e]
  have z : ∀ g : Group, g0 g = true → g.count = 0 ∧ g.kind = 0 ∧ g.attitude = 0 ∧ g.tincture = 0 := fun g hg => by
    simpa [g0] using hg
  cases hA : g0 a with
  | true =>
    obtain ⟨e1, e2, e3, e4⟩ := z a hA
    simp [r_i_groupDifferences_3, r_i_groupDifferences_4, e1, e2, e3, e4]
  | false =>
  have eA : (a.count == 0 && (a.kind == 0 && (a.attitude == 0 && a.tincture == 0))) = false := hA
  cases hB : g0 b with
  | true =>
    obtain ⟨e1, e2, e3, e4⟩ := z b hB
    simp [r_i_groupDifferences_3, r_i_groupDifferences_4, e1, e2, e3, e4, eA]
  | false =>
  have eB : (b.count == 0 && (b.kind == 0 && (b.attitude == 0 && b.tincture == 0))) = false := hB
  simp [r_i_groupDifferences_3, eA, eB]
  simp [r_i_groupDifferences_5, p_i_groupDifferences_5]
  refine callD_v (i_number (a.count != b.count)) ?_ ?_ ?_
  · simp
  · simp
  simp
  refine callD_v (i_number (a.tincture != b.tincture)) ?_ ?_ ?_
  · simp
  · simp
  simp
  rw [wrap64 (by omega) (by omega)]
  refine ⟨oEnd_of (by simp [p_i_groupDifferences_5]) (by simp), ?_⟩
  simp [r_i_groupDifferences_6]
  by_cases hk : a.kind = b.kind
  · rw [if_pos hk]
    simp [r_i_groupDifferences_8, hk]
    refine callQ_v (i_number (a.attitude != b.attitude)) ?_
    simp
    exact wrap64 (by omega) (by omega)
  · rw [if_neg hk]
    simp [r_i_groupDifferences_7, hk]
    exact wrap64 (by omega) (by omega)
theorem s_l4Differences (a b : Group) : PCall Tryz.prog n_s_l4Differences [eGroup a, eGroup b] (I (groupDiff a b)) := by
  have z : ∀ g : Group, g0 g = true → g.count = 0 ∧ g.kind = 0 ∧ g.attitude = 0 ∧ g.tincture = 0 := fun g hg => by
    simpa [g0] using hg
  refine PCall.of fn_s_l4Differences (by simp) ?_
  simp [c_s_l4Differences, r_s_l4Differences_0, r_s_l4Differences_1, p_s_l4Differences_1]
  refine callD_v (PCall.arg (s_l4None a) (by simp)) ?_ ?_ ?_
  · simp
  · simp
  simp
  refine callD_v (PCall.arg (s_l4None b) (by simp)) ?_ ?_ ?_
  · simp
  · simp
  simp
  refine ⟨oEnd_of (by simp [p_s_l4Differences_1]) (by simp), fun hne => ?_, fun he => ?_⟩
  · have h1 : geq a b = false := by
      cases h : geq a b with
      | false => rfl
      | true => exact absurd (by rw [geq_iff.1 h]) hne
    have h2 : (g0 a || g0 b) = true := by cases hA : g0 a <;> cases hB : g0 b <;> simp_all
    simp [r_s_l4Differences_2, groupDiff, h1, h2]
  simp [r_s_l4Differences_3]
  have goal : groupDiff a b = bit (a.count != b.count) + (if a.kind = b.kind then bit (a.attitude != b.attitude) else 2) + bit (a.tincture != b.tincture) := by
    unfold groupDiff
    cases h : geq a b with
    | true =>
      have := geq_iff.1 h
      subst this
      simp [bit]
    | false =>
      cases hA : g0 a with
      | true =>
        rw [hA] at he
        obtain ⟨e1, e2, e3, e4⟩ := z a hA
        obtain ⟨f1, f2, f3, f4⟩ := z b he.symm
        exact absurd (show geq a b = true by simp [geq, e1, e2, e3, e4, f1, f2, f3, f4]) (by rw [h]; simp)
      | false =>
        rw [hA] at he
        simp [← he]
        omega
  obtain ⟨r, hr⟩ : ∃ r, groupDiff a b = r := ⟨_, rfl⟩
  rw [hr]
  by_cases h1 : a.count = b.count <;> by_cases h2 : a.kind = b.kind <;> by_cases h3 : a.attitude = b.attitude <;> by_cases h4 : a.tincture = b.tincture
  all_goals
    simp [r_s_l4Differences_4, r_s_l4Differences_5, r_s_l4Differences_6, r_s_l4Differences_7, r_s_l4Differences_8, r_s_l4Differences_9, h1, h2, h3]
    simp [r_s_l4Differences_10, r_s_l4Differences_11, r_s_l4Differences_12, h4]
    rw [← hr, goal]
    simp only [h1, h2, h3, h4, bit, if_true, if_false, bne_self_eq_false, bne_iff_ne, ne_eq, not_true, not_false_eq_true, Bool.false_eq_true]
    first | rfl | decide

theorem i_differences (a b : Arms) (ha : fieldOk a.field = true) (hb : fieldOk b.field = true) : PCall Tryz.prog n_i_differences [eArms a, eArms b] (I (diffs a b)) := by
  have h1 := fieldDiff_bounds a.field b.field
  have h2 := groupDiff_bounds a.on b.on
  have h3 := groupDiff_bounds a.around b.around
  have h4 := bit_bounds (a.line != b.line)
  have h5 := bit_bounds (a.tincture != b.tincture)
  refine PCall.of fn_i_differences (by simp) ?_
  unfold diffs
  simp [c_i_differences, r_i_differences_0, r_i_differences_1]
  refine callQ_of (PCall.arg (i_FieldDifferences a.field b.field ha hb) (by simp)) rfl (.inl (by simp)) (by simp) ?_
  simp [r_i_differences_2, p_i_differences_2]
  refine callD_v (PCall.arg (i_groupDifferences a.on b.on) (by simp)) ?_ ?_ ?_
  · simp
  · simp
  simp
  refine callD_v (PCall.arg (i_groupDifferences a.around b.around) (by simp)) ?_ ?_ ?_
  · simp
  · simp
  simp
  rw [wrap64 (n := groupDiff a.on b.on + groupDiff a.around b.around) (by omega) (by omega), wrap64 (by omega) (by omega)]
  refine ⟨oEnd_of (by simp [p_i_differences_2]) (by simp), ?_⟩
  by_cases ho : a.ordinary = b.ordinary
  · simp [r_i_differences_3, r_i_differences_5, p_i_differences_5, ho]
    refine callD_v (i_number (a.line != b.line)) ?_ ?_ ?_
    · simp
    · simp
    simp
    refine callD_v (i_number (a.tincture != b.tincture)) ?_ ?_ ?_
    · simp
    · simp
    simp
    rw [wrap64 (n := _ + bit (a.line != b.line)) (by omega) (by omega), wrap64 (by omega) (by omega)]
    refine ⟨oEnd_of (by simp [p_i_differences_5]) (by simp), ?_⟩
    omega
  · simp [r_i_differences_3, r_i_differences_4, ho]
    exact wrap64 (by omega) (by omega)
theorem i_conflict (a b : Arms) (ha : fieldOk a.field = true) (hb : fieldOk b.field = true) : PCall Tryz.prog n_i_conflict [eArms a, eArms b] (B (decide (diffs a b < 2))) := by
  refine PCall.of fn_i_conflict (by simp) ?_
  simp [c_i_conflict, r_i_conflict_0, r_i_conflict_1]
  refine callQ_v (PCall.arg (i_differences a b ha hb) (by simp)) ?_
  simp
theorem s_l15Count (a b : Arms) : PCall Tryz.prog n_s_l15Count [eArms a, eArms b] (I (diffs a b)) := by
  have h1 := fieldDiff_bounds a.field b.field
  have h2 := groupDiff_bounds a.on b.on
  have h3 := groupDiff_bounds a.around b.around
  refine PCall.of fn_s_l15Count (by simp) ?_
  unfold diffs
  simp [c_s_l15Count, r_s_l15Count_0, r_s_l15Count_1, p_s_l15Count_1]
  refine callD_v (PCall.arg (s_l3Differences a.field b.field) (by simp)) ?_ ?_ ?_
  · simp
  · simp
  simp
  refine callD_v (PCall.arg (s_l4Differences a.on b.on) (by simp)) ?_ ?_ ?_
  · simp
  · simp
  simp
  refine callD_v (PCall.arg (s_l4Differences a.around b.around) (by simp)) ?_ ?_ ?_
  · simp
  · simp
  simp
  rw [wrap64 (n := fieldDiff a.field b.field + groupDiff a.on b.on) (by omega) (by omega), wrap64 (by omega) (by omega)]
  refine ⟨oEnd_of (by simp [p_s_l15Count_1]) (by simp), ?_⟩
  by_cases ho : a.ordinary = b.ordinary
  rotate_left
  · simp [r_s_l15Count_2, r_s_l15Count_3, ho]
    rw [wrap64 (by omega) (by omega)]
    omega
  simp [r_s_l15Count_2, ho]
  by_cases hl : a.line = b.line <;> by_cases ht : a.tincture = b.tincture
  all_goals
    simp [r_s_l15Count_4, r_s_l15Count_5, r_s_l15Count_6, r_s_l15Count_7, r_s_l15Count_8, hl, ht, bit]
    try omega
  · rw [wrap64 (by omega) (by omega)]; omega
  · rw [wrap64 (by omega) (by omega)]; omega
  · rw [wrap64 (n := fieldDiff a.field b.field + groupDiff a.on b.on + groupDiff a.around b.around + 1) (by omega) (by omega), wrap64 (by omega) (by omega)]; omega
theorem s_l15Conflict (a b : Arms) : PCall Tryz.prog n_s_l15Conflict [eArms a, eArms b] (B (decide (diffs a b < 2))) := by
  refine PCall.of fn_s_l15Conflict (by simp) ?_
  simp [c_s_l15Conflict, r_s_l15Conflict_0, r_s_l15Conflict_1]
  refine callQ_v (PCall.arg (s_l15Count a b) (by simp)) ?_
  simp
end Go.Proofs.YtbeoijlggphklaaGreatDoor

/- The compact code of the functions, and that it is theirs: written by a program of this claim. -/
namespace Go.Proofs.YtbeoijlggphklaaGreatDoor
open Go.Abs
set_option maxRecDepth 100000
def r_w_eqField_0 : List CO := [⟨none, (some 2), (.box 4 (.t 0))⟩, ⟨none, (some 3), (.box 4 (.t 1))⟩, ⟨none, (some 4), (.mv (.k (.v (.bool false))))⟩]
def r_w_eqField_1 : List CO := [⟨none, (some 5), (.faddr 0 (.t 2))⟩, ⟨none, (some 6), (.ld false 1 (.t 5))⟩, ⟨none, (some 7), (.faddr 0 (.t 3))⟩, ⟨none, (some 8), (.ld false 1 (.t 7))⟩, ⟨none, (some 9), (.bin .neq .none (.t 6) (.t 8))⟩]
def r_w_eqField_2 : List CO := [⟨none, (some 4), (.mv (.k (.v (.bool false))))⟩]
def r_w_eqField_3 : List CO := [⟨none, (some 10), (.faddr 1 (.t 2))⟩, ⟨none, (some 11), (.ld false 1 (.t 10))⟩, ⟨none, (some 12), (.faddr 1 (.t 3))⟩, ⟨none, (some 13), (.ld false 1 (.t 12))⟩, ⟨none, (some 14), (.bin .neq .none (.t 11) (.t 13))⟩]
def r_w_eqField_4 : List CO := [⟨none, (some 4), (.mv (.k (.v (.bool false))))⟩]
def r_w_eqField_5 : List CO := [⟨none, (some 15), (.faddr 2 (.t 2))⟩, ⟨none, (some 16), (.ld false 1 (.t 15))⟩, ⟨none, (some 17), (.faddr 2 (.t 3))⟩, ⟨none, (some 18), (.ld false 1 (.t 17))⟩, ⟨none, (some 19), (.bin .neq .none (.t 16) (.t 18))⟩]
def r_w_eqField_6 : List CO := [⟨none, (some 4), (.mv (.k (.v (.bool false))))⟩]
def r_w_eqField_7 : List CO := [⟨none, (some 20), (.faddr 3 (.t 2))⟩, ⟨none, (some 21), (.ld false 1 (.t 20))⟩, ⟨none, (some 22), (.faddr 3 (.t 3))⟩, ⟨none, (some 23), (.ld false 1 (.t 22))⟩, ⟨none, (some 24), (.bin .neq .none (.t 21) (.t 23))⟩]
def r_w_eqField_8 : List CO := [⟨none, (some 4), (.mv (.k (.v (.bool false))))⟩]
def r_w_eqField_9 : List CO := [⟨none, (some 4), (.mv (.k (.v (.bool true))))⟩]
/-- loop.example/g00884/laws.eqField -/
def c_w_eqField : C := (.seq (.reg r_w_eqField_0 [2, 3]) (.seq (.seq (.reg r_w_eqField_1 [2, 3, 9]) (.cond (.t 9) (.seq (.reg r_w_eqField_2 [4]) .ret) .skip)) (.seq (.seq (.reg r_w_eqField_3 [2, 3, 14]) (.cond (.t 14) (.seq (.reg r_w_eqField_4 [4]) .ret) .skip)) (.seq (.seq (.reg r_w_eqField_5 [2, 3, 19]) (.cond (.t 19) (.seq (.reg r_w_eqField_6 [4]) .ret) .skip)) (.seq (.seq (.reg r_w_eqField_7 [24]) (.cond (.t 24) (.seq (.reg r_w_eqField_8 [4]) .ret) .skip)) (.seq (.reg r_w_eqField_9 [4]) .ret))))))
def k_w_eqField : Nat → List Nat
  | 0 => [2, 3]
  | 1 => [2, 3, 9]
  | 2 => [4]
  | 3 => [2, 3, 14]
  | 4 => [4]
  | 5 => [2, 3, 19]
  | 6 => [4]
  | 7 => [24]
  | 8 => [4]
  | 9 => [4]
  | _ => []
theorem fn_w_eqField : FnC Tryz.prog n_w_eqField c_w_eqField [(.tmp 4)] 25 :=
  ⟨Tryz.f203, _, k_w_eqField, Tryz.func203, rfl, by kernel_rfl, by kernel_rfl, by kernel_rfl, rfl⟩
def r_w_eqGroup_0 : List CO := [⟨none, (some 2), (.box 4 (.t 0))⟩, ⟨none, (some 3), (.box 4 (.t 1))⟩, ⟨none, (some 4), (.mv (.k (.v (.bool false))))⟩]
def r_w_eqGroup_1 : List CO := [⟨none, (some 5), (.faddr 0 (.t 2))⟩, ⟨none, (some 6), (.ld false 1 (.t 5))⟩, ⟨none, (some 7), (.faddr 0 (.t 3))⟩, ⟨none, (some 8), (.ld false 1 (.t 7))⟩, ⟨none, (some 9), (.bin .neq .none (.t 6) (.t 8))⟩]
def r_w_eqGroup_2 : List CO := [⟨none, (some 4), (.mv (.k (.v (.bool false))))⟩]
def r_w_eqGroup_3 : List CO := [⟨none, (some 10), (.faddr 1 (.t 2))⟩, ⟨none, (some 11), (.ld false 1 (.t 10))⟩, ⟨none, (some 12), (.faddr 1 (.t 3))⟩, ⟨none, (some 13), (.ld false 1 (.t 12))⟩, ⟨none, (some 14), (.bin .neq .none (.t 11) (.t 13))⟩]
def r_w_eqGroup_4 : List CO := [⟨none, (some 4), (.mv (.k (.v (.bool false))))⟩]
def r_w_eqGroup_5 : List CO := [⟨none, (some 15), (.faddr 2 (.t 2))⟩, ⟨none, (some 16), (.ld false 1 (.t 15))⟩, ⟨none, (some 17), (.faddr 2 (.t 3))⟩, ⟨none, (some 18), (.ld false 1 (.t 17))⟩, ⟨none, (some 19), (.bin .neq .none (.t 16) (.t 18))⟩]
def r_w_eqGroup_6 : List CO := [⟨none, (some 4), (.mv (.k (.v (.bool false))))⟩]
def r_w_eqGroup_7 : List CO := [⟨none, (some 20), (.faddr 3 (.t 2))⟩, ⟨none, (some 21), (.ld false 1 (.t 20))⟩, ⟨none, (some 22), (.faddr 3 (.t 3))⟩, ⟨none, (some 23), (.ld false 1 (.t 22))⟩, ⟨none, (some 24), (.bin .neq .none (.t 21) (.t 23))⟩]
def r_w_eqGroup_8 : List CO := [⟨none, (some 4), (.mv (.k (.v (.bool false))))⟩]
def r_w_eqGroup_9 : List CO := [⟨none, (some 4), (.mv (.k (.v (.bool true))))⟩]
/-- loop.example/g00884/laws.eqGroup -/
def c_w_eqGroup : C := (.seq (.reg r_w_eqGroup_0 [2, 3]) (.seq (.seq (.reg r_w_eqGroup_1 [2, 3, 9]) (.cond (.t 9) (.seq (.reg r_w_eqGroup_2 [4]) .ret) .skip)) (.seq (.seq (.reg r_w_eqGroup_3 [2, 3, 14]) (.cond (.t 14) (.seq (.reg r_w_eqGroup_4 [4]) .ret) .skip)) (.seq (.seq (.reg r_w_eqGroup_5 [2, 3, 19]) (.cond (.t 19) (.seq (.reg r_w_eqGroup_6 [4]) .ret) .skip)) (.seq (.seq (.reg r_w_eqGroup_7 [24]) (.cond (.t 24) (.seq (.reg r_w_eqGroup_8 [4]) .ret) .skip)) (.seq (.reg r_w_eqGroup_9 [4]) .ret))))))
def k_w_eqGroup : Nat → List Nat
  | 0 => [2, 3]
  | 1 => [2, 3, 9]
  | 2 => [4]
  | 3 => [2, 3, 14]
  | 4 => [4]
  | 5 => [2, 3, 19]
  | 6 => [4]
  | 7 => [24]
  | 8 => [4]
  | 9 => [4]
  | _ => []
theorem fn_w_eqGroup : FnC Tryz.prog n_w_eqGroup c_w_eqGroup [(.tmp 4)] 25 :=
  ⟨Tryz.f204, _, k_w_eqGroup, Tryz.func204, rfl, by kernel_rfl, by kernel_rfl, by kernel_rfl, rfl⟩
def r_w_eqArms_0 : List CO := [⟨none, (some 2), (.box 15 (.t 0))⟩, ⟨none, (some 3), (.box 15 (.t 1))⟩, ⟨none, (some 4), (.mv (.k (.v (.bool false))))⟩]
def r_w_eqArms_1 : List CO := [⟨none, (some 5), (.faddr 0 (.t 2))⟩, ⟨none, (some 6), (.ld true 4 (.t 5))⟩, ⟨none, (some 7), (.faddr 0 (.t 3))⟩, ⟨none, (some 8), (.ld true 4 (.t 7))⟩, ⟨none, (some 9), (.call n_w_eqField [(.t 6), (.t 8)])⟩, ⟨none, (some 10), (.un .not (.t 9))⟩]
def r_w_eqArms_2 : List CO := [⟨none, (some 4), (.mv (.k (.v (.bool false))))⟩]
def r_w_eqArms_3 : List CO := [⟨none, (some 11), (.faddr 4 (.t 2))⟩, ⟨none, (some 12), (.ld false 1 (.t 11))⟩, ⟨none, (some 13), (.faddr 4 (.t 3))⟩, ⟨none, (some 14), (.ld false 1 (.t 13))⟩, ⟨none, (some 15), (.bin .neq .none (.t 12) (.t 14))⟩]
def r_w_eqArms_4 : List CO := [⟨none, (some 4), (.mv (.k (.v (.bool false))))⟩]
def r_w_eqArms_5 : List CO := [⟨none, (some 16), (.faddr 5 (.t 2))⟩, ⟨none, (some 17), (.ld false 1 (.t 16))⟩, ⟨none, (some 18), (.faddr 5 (.t 3))⟩, ⟨none, (some 19), (.ld false 1 (.t 18))⟩, ⟨none, (some 20), (.bin .neq .none (.t 17) (.t 19))⟩]
def r_w_eqArms_6 : List CO := [⟨none, (some 4), (.mv (.k (.v (.bool false))))⟩]
def r_w_eqArms_7 : List CO := [⟨none, (some 21), (.faddr 6 (.t 2))⟩, ⟨none, (some 22), (.ld false 1 (.t 21))⟩, ⟨none, (some 23), (.faddr 6 (.t 3))⟩, ⟨none, (some 24), (.ld false 1 (.t 23))⟩, ⟨none, (some 25), (.bin .neq .none (.t 22) (.t 24))⟩]
def r_w_eqArms_8 : List CO := [⟨none, (some 4), (.mv (.k (.v (.bool false))))⟩]
def r_w_eqArms_9 : List CO := [⟨none, (some 26), (.faddr 7 (.t 2))⟩, ⟨none, (some 27), (.ld true 4 (.t 26))⟩, ⟨none, (some 28), (.faddr 7 (.t 3))⟩, ⟨none, (some 29), (.ld true 4 (.t 28))⟩, ⟨none, (some 30), (.call n_w_eqGroup [(.t 27), (.t 29)])⟩, ⟨none, (some 31), (.un .not (.t 30))⟩]
def r_w_eqArms_10 : List CO := [⟨none, (some 4), (.mv (.k (.v (.bool false))))⟩]
def r_w_eqArms_11 : List CO := [⟨none, (some 32), (.faddr 11 (.t 2))⟩, ⟨none, (some 33), (.ld true 4 (.t 32))⟩, ⟨none, (some 34), (.faddr 11 (.t 3))⟩, ⟨none, (some 35), (.ld true 4 (.t 34))⟩, ⟨none, (some 36), (.call n_w_eqGroup [(.t 33), (.t 35)])⟩, ⟨none, (some 37), (.un .not (.t 36))⟩]
def r_w_eqArms_12 : List CO := [⟨none, (some 4), (.mv (.k (.v (.bool false))))⟩]
def r_w_eqArms_13 : List CO := [⟨none, (some 4), (.mv (.k (.v (.bool true))))⟩]
/-- loop.example/g00884/laws.eqArms -/
def c_w_eqArms : C := (.seq (.reg r_w_eqArms_0 [2, 3]) (.seq (.seq (.reg r_w_eqArms_1 [2, 3, 10]) (.cond (.t 10) (.seq (.reg r_w_eqArms_2 [4]) .ret) .skip)) (.seq (.seq (.reg r_w_eqArms_3 [2, 3, 15]) (.cond (.t 15) (.seq (.reg r_w_eqArms_4 [4]) .ret) .skip)) (.seq (.seq (.reg r_w_eqArms_5 [2, 3, 20]) (.cond (.t 20) (.seq (.reg r_w_eqArms_6 [4]) .ret) .skip)) (.seq (.seq (.reg r_w_eqArms_7 [2, 3, 25]) (.cond (.t 25) (.seq (.reg r_w_eqArms_8 [4]) .ret) .skip)) (.seq (.seq (.reg r_w_eqArms_9 [2, 3, 31]) (.cond (.t 31) (.seq (.reg r_w_eqArms_10 [4]) .ret) .skip)) (.seq (.seq (.reg r_w_eqArms_11 [37]) (.cond (.t 37) (.seq (.reg r_w_eqArms_12 [4]) .ret) .skip)) (.seq (.reg r_w_eqArms_13 [4]) .ret))))))))
def k_w_eqArms : Nat → List Nat
  | 0 => [2, 3]
  | 1 => [2, 3, 10]
  | 2 => [4]
  | 3 => [2, 3, 15]
  | 4 => [4]
  | 5 => [2, 3, 20]
  | 6 => [4]
  | 7 => [2, 3, 25]
  | 8 => [4]
  | 9 => [2, 3, 31]
  | 10 => [4]
  | 11 => [37]
  | 12 => [4]
  | 13 => [4]
  | _ => []
theorem fn_w_eqArms : FnC Tryz.prog n_w_eqArms c_w_eqArms [(.tmp 4)] 38 :=
  ⟨Tryz.f153, _, k_w_eqArms, Tryz.func153, rfl, by kernel_rfl, by kernel_rfl, by kernel_rfl, rfl⟩
def r_w_eqGrant_0 : List CO := [⟨none, (some 2), (.box 18 (.t 0))⟩, ⟨none, (some 3), (.box 18 (.t 1))⟩, ⟨none, (some 4), (.mv (.k (.v (.bool false))))⟩]
def r_w_eqGrant_1 : List CO := [⟨none, (some 5), (.faddr 0 (.t 2))⟩, ⟨none, (some 6), (.ld false 1 (.t 5))⟩, ⟨none, (some 7), (.faddr 0 (.t 3))⟩, ⟨none, (some 8), (.ld false 1 (.t 7))⟩, ⟨none, (some 9), (.bin .neq .none (.t 6) (.t 8))⟩]
def r_w_eqGrant_2 : List CO := [⟨none, (some 4), (.mv (.k (.v (.bool false))))⟩]
def r_w_eqGrant_3 : List CO := [⟨none, (some 10), (.faddr 1 (.t 2))⟩, ⟨none, (some 11), (.ld false 1 (.t 10))⟩, ⟨none, (some 12), (.faddr 1 (.t 3))⟩, ⟨none, (some 13), (.ld false 1 (.t 12))⟩, ⟨none, (some 14), (.bin .neq .none (.t 11) (.t 13))⟩]
def r_w_eqGrant_4 : List CO := [⟨none, (some 4), (.mv (.k (.v (.bool false))))⟩]
def r_w_eqGrant_5 : List CO := [⟨none, (some 15), (.faddr 2 (.t 2))⟩, ⟨none, (some 16), (.ld false 1 (.t 15))⟩, ⟨none, (some 17), (.faddr 2 (.t 3))⟩, ⟨none, (some 18), (.ld false 1 (.t 17))⟩, ⟨none, (some 19), (.bin .neq .none (.t 16) (.t 18))⟩]
def r_w_eqGrant_6 : List CO := [⟨none, (some 4), (.mv (.k (.v (.bool false))))⟩]
def r_w_eqGrant_7 : List CO := [⟨none, (some 20), (.faddr 3 (.t 2))⟩, ⟨none, (some 21), (.ld true 15 (.t 20))⟩, ⟨none, (some 22), (.faddr 3 (.t 3))⟩, ⟨none, (some 23), (.ld true 15 (.t 22))⟩, ⟨none, (some 24), (.call n_w_eqArms [(.t 21), (.t 23)])⟩, ⟨none, (some 25), (.un .not (.t 24))⟩]
def r_w_eqGrant_8 : List CO := [⟨none, (some 4), (.mv (.k (.v (.bool false))))⟩]
def r_w_eqGrant_9 : List CO := [⟨none, (some 4), (.mv (.k (.v (.bool true))))⟩]
/-- loop.example/g00884/laws.eqGrant -/
def c_w_eqGrant : C := (.seq (.reg r_w_eqGrant_0 [2, 3]) (.seq (.seq (.reg r_w_eqGrant_1 [2, 3, 9]) (.cond (.t 9) (.seq (.reg r_w_eqGrant_2 [4]) .ret) .skip)) (.seq (.seq (.reg r_w_eqGrant_3 [2, 3, 14]) (.cond (.t 14) (.seq (.reg r_w_eqGrant_4 [4]) .ret) .skip)) (.seq (.seq (.reg r_w_eqGrant_5 [2, 3, 19]) (.cond (.t 19) (.seq (.reg r_w_eqGrant_6 [4]) .ret) .skip)) (.seq (.seq (.reg r_w_eqGrant_7 [25]) (.cond (.t 25) (.seq (.reg r_w_eqGrant_8 [4]) .ret) .skip)) (.seq (.reg r_w_eqGrant_9 [4]) .ret))))))
def k_w_eqGrant : Nat → List Nat
  | 0 => [2, 3]
  | 1 => [2, 3, 9]
  | 2 => [4]
  | 3 => [2, 3, 14]
  | 4 => [4]
  | 5 => [2, 3, 19]
  | 6 => [4]
  | 7 => [25]
  | 8 => [4]
  | 9 => [4]
  | _ => []
theorem fn_w_eqGrant : FnC Tryz.prog n_w_eqGrant c_w_eqGrant [(.tmp 4)] 26 :=
  ⟨Tryz.f113, _, k_w_eqGrant, Tryz.func113, rfl, by kernel_rfl, by kernel_rfl, by kernel_rfl, rfl⟩
def r_w_eqGrantS_0 : List CO := [⟨none, (some 4), (.mv (.k (.v (.bool false))))⟩]
def r_w_eqGrantS_1 : List CO := [⟨none, (some 6), (.mv (.t 0))⟩, ⟨none, (some 7), (.len false (.t 6))⟩, ⟨none, (some 8), (.mv (.t 1))⟩, ⟨none, (some 9), (.len false (.t 8))⟩, ⟨none, (some 10), (.bin .neq .none (.t 7) (.t 9))⟩]
def r_w_eqGrantS_2 : List CO := [⟨none, (some 4), (.mv (.k (.v (.bool false))))⟩]
def r_w_eqGrantS_3 : List CO := [⟨none, (some 5), (.mv (.k (.v (.int .i64 (0)))))⟩]
def r_w_eqGrantS_4 : List CO := [⟨none, (some 11), (.mv (.t 5))⟩, ⟨none, (some 12), (.mv (.t 0))⟩, ⟨none, (some 13), (.len false (.t 12))⟩, ⟨none, (some 14), (.bin .lss .none (.t 11) (.t 13))⟩]
def r_w_eqGrantS_5 : List CO := [⟨none, (some 17), (.mv (.t 0))⟩, ⟨none, (some 18), (.mv (.t 5))⟩, ⟨none, (some 19), (.iaddr 18 (.t 17) (.t 18))⟩, ⟨none, (some 20), (.ld true 18 (.t 19))⟩, ⟨none, (some 21), (.mv (.t 1))⟩, ⟨none, (some 22), (.mv (.t 5))⟩, ⟨none, (some 23), (.iaddr 18 (.t 21) (.t 22))⟩, ⟨none, (some 24), (.ld true 18 (.t 23))⟩, ⟨none, (some 25), (.call n_w_eqGrant [(.t 20), (.t 24)])⟩, ⟨none, (some 26), (.un .not (.t 25))⟩]
def p_w_eqGrantS_5 : List (List Nat) := [[], [], [0, 1], [0, 1, 2], [], [], [4, 5], [4, 5, 6], [0, 1, 2, 3, 4, 5, 6, 7], [0, 1, 2, 3, 4, 5, 6, 7, 8]]
def r_w_eqGrantS_6 : List CO := [⟨none, (some 4), (.mv (.k (.v (.bool false))))⟩]
def r_w_eqGrantS_7 : List CO := [⟨none, (some 15), (.mv (.t 5))⟩, ⟨none, (some 16), (.bin .add .none (.t 15) (.k (.v (.int .i64 (1)))))⟩, ⟨none, (some 5), (.mv (.t 16))⟩]
def l_w_eqGrantS_8 : C := (.seq (.seq (.reg r_w_eqGrantS_4 [0, 1, 5, 14]) (.cond (.t 14) .skip (.exit 0))) (.seq (.block 1 (.seq (.regD r_w_eqGrantS_5 p_w_eqGrantS_5 [0, 1, 5, 26]) (.cond (.t 26) (.seq (.reg r_w_eqGrantS_6 [4]) .ret) .skip))) (.reg r_w_eqGrantS_7 [0, 1, 5])))
def r_w_eqGrantS_9 : List CO := [⟨none, (some 4), (.mv (.k (.v (.bool true))))⟩]
/-- loop.example/g00884/laws.eqGrantS -/
def c_w_eqGrantS : C := (.seq (.reg r_w_eqGrantS_0 [0, 1]) (.seq (.seq (.reg r_w_eqGrantS_1 [0, 1, 10]) (.cond (.t 10) (.seq (.reg r_w_eqGrantS_2 [4]) .ret) .skip)) (.seq (.seq (.reg r_w_eqGrantS_3 [0, 1, 5]) (.block 0 (.loop l_w_eqGrantS_8))) (.seq (.reg r_w_eqGrantS_9 [4]) .ret))))
def k_w_eqGrantS : Nat → List Nat
  | 0 => [0, 1]
  | 1 => [0, 1, 10]
  | 2 => [4]
  | 3 => [0, 1, 5]
  | 4 => [0, 1, 5, 14]
  | 6 => [0, 1, 5, 26]
  | 7 => [4]
  | 5 => [0, 1, 5]
  | 8 => [4]
  | _ => []
theorem fn_w_eqGrantS : FnC Tryz.prog n_w_eqGrantS c_w_eqGrantS [(.tmp 4)] 27 :=
  ⟨Tryz.f74, _, k_w_eqGrantS, Tryz.func74, rfl, by kernel_rfl, by kernel_rfl, by kernel_rfl, rfl⟩
def r_w_eqRegister_0 : List CO := [⟨none, (some 2), (.box 1 (.t 0))⟩, ⟨none, (some 3), (.box 1 (.t 1))⟩, ⟨none, (some 4), (.mv (.k (.v (.bool false))))⟩]
def r_w_eqRegister_1 : List CO := [⟨none, (some 5), (.faddr 0 (.t 2))⟩, ⟨none, (some 6), (.ld false 1 (.t 5))⟩, ⟨none, (some 7), (.faddr 0 (.t 3))⟩, ⟨none, (some 8), (.ld false 1 (.t 7))⟩, ⟨none, (some 9), (.call n_w_eqGrantS [(.t 6), (.t 8)])⟩, ⟨none, (some 10), (.un .not (.t 9))⟩]
def r_w_eqRegister_2 : List CO := [⟨none, (some 4), (.mv (.k (.v (.bool false))))⟩]
def r_w_eqRegister_3 : List CO := [⟨none, (some 4), (.mv (.k (.v (.bool true))))⟩]
/-- loop.example/g00884/laws.eqRegister -/
def c_w_eqRegister : C := (.seq (.reg r_w_eqRegister_0 [2, 3]) (.seq (.seq (.reg r_w_eqRegister_1 [10]) (.cond (.t 10) (.seq (.reg r_w_eqRegister_2 [4]) .ret) .skip)) (.seq (.reg r_w_eqRegister_3 [4]) .ret)))
def k_w_eqRegister : Nat → List Nat
  | 0 => [2, 3]
  | 1 => [10]
  | 2 => [4]
  | 3 => [4]
  | _ => []
theorem fn_w_eqRegister : FnC Tryz.prog n_w_eqRegister c_w_eqRegister [(.tmp 4)] 11 :=
  ⟨Tryz.f29, _, k_w_eqRegister, Tryz.func29, rfl, by kernel_rfl, by kernel_rfl, by kernel_rfl, rfl⟩
def r_w_toGrant_0 : List CO := [⟨none, (some 1), (.box 18 (.t 0))⟩, ⟨none, (some 2), (.box 18 (.k (.agg [(.v (.int .i64 (0))), (.v (.string (bs []))), (.v (.int .i64 (0))), (.v (.int .i64 (0))), (.v (.int .i64 (0))), (.v (.int .i64 (0))), (.v (.int .i64 (0))), (.v (.int .i64 (0))), (.v (.int .i64 (0))), (.v (.int .i64 (0))), (.v (.int .i64 (0))), (.v (.int .i64 (0))), (.v (.int .i64 (0))), (.v (.int .i64 (0))), (.v (.int .i64 (0))), (.v (.int .i64 (0))), (.v (.int .i64 (0))), (.v (.int .i64 (0)))])))⟩]
def r_w_toGrant_1 : List CO := [⟨none, (some 3), (.box 18 (.k (.agg [(.v (.int .i64 (0))), (.v (.string (bs []))), (.v (.int .i64 (0))), (.v (.int .i64 (0))), (.v (.int .i64 (0))), (.v (.int .i64 (0))), (.v (.int .i64 (0))), (.v (.int .i64 (0))), (.v (.int .i64 (0))), (.v (.int .i64 (0))), (.v (.int .i64 (0))), (.v (.int .i64 (0))), (.v (.int .i64 (0))), (.v (.int .i64 (0))), (.v (.int .i64 (0))), (.v (.int .i64 (0))), (.v (.int .i64 (0))), (.v (.int .i64 (0)))])))⟩]
def r_w_toGrant_2 : List CO := [⟨none, (some 4), (.faddr 0 (.t 1))⟩, ⟨none, (some 5), (.ld false 1 (.t 4))⟩, ⟨none, (some 6), (.faddr 0 (.t 3))⟩, ⟨none, none, (.st 1 (.t 6) (.t 5))⟩]
def r_w_toGrant_3 : List CO := [⟨none, (some 7), (.faddr 1 (.t 1))⟩, ⟨none, (some 8), (.ld false 1 (.t 7))⟩, ⟨none, (some 9), (.faddr 1 (.t 3))⟩, ⟨none, none, (.st 1 (.t 9) (.t 8))⟩]
def r_w_toGrant_4 : List CO := [⟨none, (some 10), (.faddr 2 (.t 1))⟩, ⟨none, (some 11), (.ld false 1 (.t 10))⟩, ⟨none, (some 12), (.faddr 2 (.t 3))⟩, ⟨none, none, (.st 1 (.t 12) (.t 11))⟩]
def r_w_toGrant_5 : List CO := [⟨none, (some 13), (.faddr 3 (.t 1))⟩, ⟨none, (some 14), (.ld true 15 (.t 13))⟩, ⟨none, (some 15), (.call n_w_toArms [(.t 14)])⟩, ⟨none, (some 16), (.faddr 3 (.t 3))⟩, ⟨none, none, (.st 15 (.t 16) (.t 15))⟩]
def r_w_toGrant_6 : List CO := [⟨none, (some 17), (.ld true 18 (.t 3))⟩, ⟨none, none, (.st 18 (.t 2) (.t 17))⟩]
/-- loop.example/g00884/laws.toGrant -/
def c_w_toGrant : C := (.seq (.reg r_w_toGrant_0 [1, 2]) (.seq (.reg r_w_toGrant_1 [1, 2, 3]) (.seq (.reg r_w_toGrant_2 [1, 2, 3]) (.seq (.reg r_w_toGrant_3 [1, 2, 3]) (.seq (.reg r_w_toGrant_4 [1, 2, 3]) (.seq (.reg r_w_toGrant_5 [2, 3]) (.seq (.reg r_w_toGrant_6 [2]) .ret)))))))
def k_w_toGrant : Nat → List Nat
  | 0 => [1, 2]
  | 1 => [1, 2, 3]
  | 2 => [1, 2, 3]
  | 3 => [1, 2, 3]
  | 4 => [1, 2, 3]
  | 5 => [2, 3]
  | 6 => [2]
  | _ => []
theorem fn_w_toGrant : FnC Tryz.prog n_w_toGrant c_w_toGrant [(.cell 2 true 18)] 18 :=
  ⟨Tryz.f14, _, k_w_toGrant, Tryz.func14, rfl, by kernel_rfl, by kernel_rfl, by kernel_rfl, rfl⟩
def r_w_szGrant_0 : List CO := [⟨none, (some 2), (.box 18 (.t 0))⟩, ⟨none, (some 4), (.mv (.k (.v (.int .i64 (0)))))⟩]
def r_w_szGrant_1 : List CO := [⟨none, (some 5), (.mv (.t 1))⟩, ⟨none, (some 6), (.faddr 1 (.t 2))⟩, ⟨none, (some 7), (.ld false 1 (.t 6))⟩, ⟨none, (some 8), (.len true (.t 7))⟩, ⟨none, (some 9), (.bin .sub .none (.t 5) (.t 8))⟩, ⟨none, (some 1), (.mv (.t 9))⟩]
def r_w_szGrant_2 : List CO := [⟨none, (some 10), (.mv (.t 1))⟩, ⟨none, (some 11), (.bin .lss .none (.t 10) (.k (.v (.int .i64 (0)))))⟩]
def r_w_szGrant_3 : List CO := [⟨none, (some 4), (.mv (.k (.v (.int .i64 (-1)))))⟩]
def r_w_szGrant_4 : List CO := [⟨none, (some 12), (.mv (.t 1))⟩, ⟨none, (some 4), (.mv (.t 12))⟩]
/-- loop.example/g00884/laws.szGrant -/
def c_w_szGrant : C := (.seq (.reg r_w_szGrant_0 [1, 2]) (.seq (.reg r_w_szGrant_1 [1]) (.seq (.seq (.reg r_w_szGrant_2 [1, 11]) (.cond (.t 11) (.seq (.reg r_w_szGrant_3 [4]) .ret) .skip)) (.seq (.reg r_w_szGrant_4 [4]) .ret))))
def k_w_szGrant : Nat → List Nat
  | 0 => [1, 2]
  | 1 => [1]
  | 2 => [1, 11]
  | 3 => [4]
  | 4 => [4]
  | _ => []
theorem fn_w_szGrant : FnC Tryz.prog n_w_szGrant c_w_szGrant [(.tmp 4)] 13 :=
  ⟨Tryz.f12, _, k_w_szGrant, Tryz.func12, rfl, by kernel_rfl, by kernel_rfl, by kernel_rfl, rfl⟩
def r_w_szGrantS_0 : List CO := [⟨none, (some 4), (.mv (.k (.v (.int .i64 (0)))))⟩]
def r_w_szGrantS_1 : List CO := [⟨none, (some 6), (.mv (.t 1))⟩, ⟨none, (some 7), (.mv (.t 0))⟩, ⟨none, (some 8), (.len false (.t 7))⟩, ⟨none, (some 9), (.bin .sub .none (.t 6) (.t 8))⟩, ⟨none, (some 1), (.mv (.t 9))⟩]
def r_w_szGrantS_2 : List CO := [⟨none, (some 10), (.mv (.t 1))⟩, ⟨none, (some 11), (.bin .lss .none (.t 10) (.k (.v (.int .i64 (0)))))⟩]
def r_w_szGrantS_3 : List CO := [⟨none, (some 4), (.mv (.k (.v (.int .i64 (-1)))))⟩]
def r_w_szGrantS_4 : List CO := [⟨none, (some 5), (.mv (.k (.v (.int .i64 (0)))))⟩]
def r_w_szGrantS_5 : List CO := [⟨none, (some 12), (.mv (.t 5))⟩, ⟨none, (some 13), (.mv (.t 0))⟩, ⟨none, (some 14), (.len false (.t 13))⟩, ⟨none, (some 15), (.bin .lss .none (.t 12) (.t 14))⟩]
def r_w_szGrantS_6 : List CO := [⟨none, (some 18), (.mv (.t 0))⟩, ⟨none, (some 19), (.mv (.t 5))⟩, ⟨none, (some 20), (.iaddr 18 (.t 18) (.t 19))⟩, ⟨none, (some 21), (.ld true 18 (.t 20))⟩, ⟨none, (some 22), (.mv (.t 1))⟩, ⟨none, (some 23), (.call n_w_szGrant [(.t 21), (.t 22)])⟩, ⟨none, (some 1), (.mv (.t 23))⟩]
def r_w_szGrantS_7 : List CO := [⟨none, (some 24), (.mv (.t 1))⟩, ⟨none, (some 25), (.bin .lss .none (.t 24) (.k (.v (.int .i64 (0)))))⟩]
def r_w_szGrantS_8 : List CO := [⟨none, (some 4), (.mv (.k (.v (.int .i64 (-1)))))⟩]
def r_w_szGrantS_9 : List CO := [⟨none, (some 16), (.mv (.t 5))⟩, ⟨none, (some 17), (.bin .add .none (.t 16) (.k (.v (.int .i64 (1)))))⟩, ⟨none, (some 5), (.mv (.t 17))⟩]
def l_w_szGrantS_10 : C := (.seq (.seq (.reg r_w_szGrantS_5 [0, 1, 5, 15]) (.cond (.t 15) .skip (.exit 0))) (.seq (.block 1 (.seq (.reg r_w_szGrantS_6 [0, 1, 5]) (.seq (.reg r_w_szGrantS_7 [0, 1, 5, 25]) (.cond (.t 25) (.seq (.reg r_w_szGrantS_8 [4]) .ret) .skip)))) (.reg r_w_szGrantS_9 [0, 1, 5])))
def r_w_szGrantS_11 : List CO := [⟨none, (some 26), (.mv (.t 1))⟩, ⟨none, (some 4), (.mv (.t 26))⟩]
/-- loop.example/g00884/laws.szGrantS -/
def c_w_szGrantS : C := (.seq (.reg r_w_szGrantS_0 [0, 1]) (.seq (.reg r_w_szGrantS_1 [0, 1]) (.seq (.seq (.reg r_w_szGrantS_2 [0, 1, 11]) (.cond (.t 11) (.seq (.reg r_w_szGrantS_3 [4]) .ret) .skip)) (.seq (.seq (.reg r_w_szGrantS_4 [0, 1, 5]) (.block 0 (.loop l_w_szGrantS_10))) (.seq (.reg r_w_szGrantS_11 [4]) .ret)))))
def k_w_szGrantS : Nat → List Nat
  | 0 => [0, 1]
  | 1 => [0, 1]
  | 2 => [0, 1, 11]
  | 3 => [4]
  | 4 => [0, 1, 5]
  | 5 => [0, 1, 5, 15]
  | 7 => [0, 1, 5]
  | 8 => [0, 1, 5, 25]
  | 9 => [4]
  | 6 => [0, 1, 5]
  | 10 => [4]
  | _ => []
theorem fn_w_szGrantS : FnC Tryz.prog n_w_szGrantS c_w_szGrantS [(.tmp 4)] 27 :=
  ⟨Tryz.f69, _, k_w_szGrantS, Tryz.func69, rfl, by kernel_rfl, by kernel_rfl, by kernel_rfl, rfl⟩
def r_w_szRegister_0 : List CO := [⟨none, (some 2), (.box 1 (.t 0))⟩, ⟨none, (some 4), (.mv (.k (.v (.int .i64 (0)))))⟩]
def r_w_szRegister_1 : List CO := [⟨none, (some 5), (.faddr 0 (.t 2))⟩, ⟨none, (some 6), (.ld false 1 (.t 5))⟩, ⟨none, (some 7), (.mv (.t 1))⟩, ⟨none, (some 8), (.call n_w_szGrantS [(.t 6), (.t 7)])⟩, ⟨none, (some 1), (.mv (.t 8))⟩]
def r_w_szRegister_2 : List CO := [⟨none, (some 9), (.mv (.t 1))⟩, ⟨none, (some 10), (.bin .lss .none (.t 9) (.k (.v (.int .i64 (0)))))⟩]
def r_w_szRegister_3 : List CO := [⟨none, (some 4), (.mv (.k (.v (.int .i64 (-1)))))⟩]
def r_w_szRegister_4 : List CO := [⟨none, (some 11), (.mv (.t 1))⟩, ⟨none, (some 4), (.mv (.t 11))⟩]
/-- loop.example/g00884/laws.szRegister -/
def c_w_szRegister : C := (.seq (.reg r_w_szRegister_0 [1, 2]) (.seq (.reg r_w_szRegister_1 [1]) (.seq (.seq (.reg r_w_szRegister_2 [1, 10]) (.cond (.t 10) (.seq (.reg r_w_szRegister_3 [4]) .ret) .skip)) (.seq (.reg r_w_szRegister_4 [4]) .ret))))
def k_w_szRegister : Nat → List Nat
  | 0 => [1, 2]
  | 1 => [1]
  | 2 => [1, 10]
  | 3 => [4]
  | 4 => [4]
  | _ => []
theorem fn_w_szRegister : FnC Tryz.prog n_w_szRegister c_w_szRegister [(.tmp 4)] 12 :=
  ⟨Tryz.f24, _, k_w_szRegister, Tryz.func24, rfl, by kernel_rfl, by kernel_rfl, by kernel_rfl, rfl⟩
def r_w_toGrantS_0 : List CO := [⟨none, (some 2), (.mv (.k (.v (.slice none 0 0))))⟩]
def r_w_toGrantS_1 : List CO := [⟨none, (some 5), (.mv (.t 0))⟩, ⟨none, (some 6), (.len false (.t 5))⟩, ⟨none, (some 7), (.mks 18 (.agg [(.v (.int .i64 (0))), (.v (.string (bs []))), (.v (.int .i64 (0))), (.v (.int .i64 (0))), (.v (.int .i64 (0))), (.v (.int .i64 (0))), (.v (.int .i64 (0))), (.v (.int .i64 (0))), (.v (.int .i64 (0))), (.v (.int .i64 (0))), (.v (.int .i64 (0))), (.v (.int .i64 (0))), (.v (.int .i64 (0))), (.v (.int .i64 (0))), (.v (.int .i64 (0))), (.v (.int .i64 (0))), (.v (.int .i64 (0))), (.v (.int .i64 (0)))]) 152 (.t 6) (.t 6))⟩, ⟨none, (some 3), (.mv (.t 7))⟩]
def r_w_toGrantS_2 : List CO := [⟨none, (some 4), (.mv (.k (.v (.int .i64 (0)))))⟩]
def r_w_toGrantS_3 : List CO := [⟨none, (some 8), (.mv (.t 4))⟩, ⟨none, (some 9), (.mv (.t 0))⟩, ⟨none, (some 10), (.len false (.t 9))⟩, ⟨none, (some 11), (.bin .lss .none (.t 8) (.t 10))⟩]
def r_w_toGrantS_4 : List CO := [⟨none, (some 14), (.mv (.t 3))⟩, ⟨none, (some 15), (.mv (.t 4))⟩, ⟨none, (some 16), (.mv (.t 0))⟩, ⟨none, (some 17), (.mv (.t 4))⟩, ⟨none, (some 18), (.iaddr 18 (.t 16) (.t 17))⟩, ⟨none, (some 19), (.ld true 18 (.t 18))⟩, ⟨none, (some 20), (.call n_w_toGrant [(.t 19)])⟩, ⟨none, (some 21), (.iaddr 18 (.t 14) (.t 15))⟩, ⟨none, none, (.st 18 (.t 21) (.t 20))⟩]
def r_w_toGrantS_5 : List CO := [⟨none, (some 12), (.mv (.t 4))⟩, ⟨none, (some 13), (.bin .add .none (.t 12) (.k (.v (.int .i64 (1)))))⟩, ⟨none, (some 4), (.mv (.t 13))⟩]
def l_w_toGrantS_6 : C := (.seq (.seq (.reg r_w_toGrantS_3 [0, 3, 4, 11]) (.cond (.t 11) .skip (.exit 0))) (.seq (.block 1 (.reg r_w_toGrantS_4 [0, 3, 4])) (.reg r_w_toGrantS_5 [0, 3, 4])))
def r_w_toGrantS_7 : List CO := [⟨none, (some 22), (.mv (.t 3))⟩, ⟨none, (some 2), (.mv (.t 22))⟩]
/-- loop.example/g00884/laws.toGrantS -/
def c_w_toGrantS : C := (.seq (.reg r_w_toGrantS_0 [0]) (.seq (.reg r_w_toGrantS_1 [0, 3]) (.seq (.seq (.reg r_w_toGrantS_2 [0, 3, 4]) (.block 0 (.loop l_w_toGrantS_6))) (.seq (.reg r_w_toGrantS_7 [2]) .ret))))
def k_w_toGrantS : Nat → List Nat
  | 0 => [0]
  | 1 => [0, 3]
  | 2 => [0, 3, 4]
  | 3 => [0, 3, 4, 11]
  | 5 => [0, 3, 4]
  | 4 => [0, 3, 4]
  | 6 => [2]
  | _ => []
theorem fn_w_toGrantS : FnC Tryz.prog n_w_toGrantS c_w_toGrantS [(.tmp 2)] 23 :=
  ⟨Tryz.f71, _, k_w_toGrantS, Tryz.func71, rfl, by kernel_rfl, by kernel_rfl, by kernel_rfl, rfl⟩
def r_w_toRegister_0 : List CO := [⟨none, (some 1), (.box 1 (.t 0))⟩, ⟨none, (some 2), (.box 1 (.k (.agg [(.v (.slice none 0 0))])))⟩]
def r_w_toRegister_1 : List CO := [⟨none, (some 3), (.box 1 (.k (.agg [(.v (.slice none 0 0))])))⟩]
def r_w_toRegister_2 : List CO := [⟨none, (some 4), (.faddr 0 (.t 1))⟩, ⟨none, (some 5), (.ld false 1 (.t 4))⟩, ⟨none, (some 6), (.call n_w_toGrantS [(.t 5)])⟩, ⟨none, (some 7), (.faddr 0 (.t 3))⟩, ⟨none, none, (.st 1 (.t 7) (.t 6))⟩]
def r_w_toRegister_3 : List CO := [⟨none, (some 8), (.ld true 1 (.t 3))⟩, ⟨none, none, (.st 1 (.t 2) (.t 8))⟩]
/-- loop.example/g00884/laws.toRegister -/
def c_w_toRegister : C := (.seq (.reg r_w_toRegister_0 [1, 2]) (.seq (.reg r_w_toRegister_1 [1, 2, 3]) (.seq (.reg r_w_toRegister_2 [2, 3]) (.seq (.reg r_w_toRegister_3 [2]) .ret))))
def k_w_toRegister : Nat → List Nat
  | 0 => [1, 2]
  | 1 => [1, 2, 3]
  | 2 => [2, 3]
  | 3 => [2]
  | _ => []
theorem fn_w_toRegister : FnC Tryz.prog n_w_toRegister c_w_toRegister [(.cell 2 true 1)] 9 :=
  ⟨Tryz.f26, _, k_w_toRegister, Tryz.func26, rfl, by kernel_rfl, by kernel_rfl, by kernel_rfl, rfl⟩
end Go.Proofs.YtbeoijlggphklaaGreatDoor

/- Grants and rows of grants: how they lie, the laws' helpers. -/
set_option linter.unusedVariables false
set_option linter.unusedSimpArgs false
namespace Go.Proofs.YtbeoijlggphklaaGreatDoor
open Go.Abs

structure Grant where
  number : Int
  name : List UInt8
  year : Int
  arms : Arms
  deriving DecidableEq
abbrev eGrant (g : Grant) : V := .agg [I g.number, S g.name, I g.year, I g.arms.field.division, I g.arms.field.line, I g.arms.field.first, I g.arms.field.second, I g.arms.ordinary, I g.arms.line, I g.arms.tincture,
  I g.arms.on.count, I g.arms.on.kind, I g.arms.on.attitude, I g.arms.on.tincture, I g.arms.around.count, I g.arms.around.kind, I g.arms.around.attitude, I g.arms.around.tincture]
abbrev Register := List Grant
abbrev eRegister (r : Register) : V := .agg [.ro 18 (r.map eGrant)]

theorem Field.eq_iff (p q : Field) : p = q ↔ p.division = q.division ∧ p.line = q.line ∧ p.first = q.first ∧ p.second = q.second := by
  cases p; cases q; simp
theorem w_eqField (p q : Field) : PCall Tryz.prog n_w_eqField [eField p, eField q] (B (decide (p = q))) := by
  refine PCall.of fn_w_eqField (by simp) ?_
  simp [c_w_eqField, r_w_eqField_0]
  by_cases h0 : p.division = q.division
  rotate_left
  · simp [r_w_eqField_1, r_w_eqField_2, h0, Field.eq_iff]
  simp [r_w_eqField_1, h0]
  by_cases h1 : p.line = q.line
  rotate_left
  · simp [r_w_eqField_3, r_w_eqField_4, h1, h0, Field.eq_iff]
  simp [r_w_eqField_3, h1]
  by_cases h2 : p.first = q.first
  rotate_left
  · simp [r_w_eqField_5, r_w_eqField_6, h2, h0, h1, Field.eq_iff]
  simp [r_w_eqField_5, h2]
  by_cases h3 : p.second = q.second
  rotate_left
  · simp [r_w_eqField_7, r_w_eqField_8, h3, h0, h1, h2, Field.eq_iff]
  simp [r_w_eqField_7, h3]
  simp [r_w_eqField_9, Field.eq_iff, h0, h1, h2, h3]
theorem Group.eq_iff (p q : Group) : p = q ↔ p.count = q.count ∧ p.kind = q.kind ∧ p.attitude = q.attitude ∧ p.tincture = q.tincture := by
  cases p; cases q; simp
theorem w_eqGroup (p q : Group) : PCall Tryz.prog n_w_eqGroup [eGroup p, eGroup q] (B (decide (p = q))) := by
  refine PCall.of fn_w_eqGroup (by simp) ?_
  simp [c_w_eqGroup, r_w_eqGroup_0]
  by_cases h0 : p.count = q.count
  rotate_left
  · simp [r_w_eqGroup_1, r_w_eqGroup_2, h0, Group.eq_iff]
  simp [r_w_eqGroup_1, h0]
  by_cases h1 : p.kind = q.kind
  rotate_left
  · simp [r_w_eqGroup_3, r_w_eqGroup_4, h1, h0, Group.eq_iff]
  simp [r_w_eqGroup_3, h1]
  by_cases h2 : p.attitude = q.attitude
  rotate_left
  · simp [r_w_eqGroup_5, r_w_eqGroup_6, h2, h0, h1, Group.eq_iff]
  simp [r_w_eqGroup_5, h2]
  by_cases h3 : p.tincture = q.tincture
  rotate_left
  · simp [r_w_eqGroup_7, r_w_eqGroup_8, h3, h0, h1, h2, Group.eq_iff]
  simp [r_w_eqGroup_7, h3]
  simp [r_w_eqGroup_9, Group.eq_iff, h0, h1, h2, h3]
theorem Arms.eq_iff (p q : Arms) : p = q ↔ p.field = q.field ∧ p.ordinary = q.ordinary ∧ p.line = q.line ∧ p.tincture = q.tincture ∧ p.on = q.on ∧ p.around = q.around := by
  cases p; cases q; simp
theorem w_eqArms (p q : Arms) : PCall Tryz.prog n_w_eqArms [eArms p, eArms q] (B (decide (p = q))) := by
  refine PCall.of fn_w_eqArms (by simp) ?_
  simp [c_w_eqArms, r_w_eqArms_0]
  simp [r_w_eqArms_1]
  refine callQ_v (PCall.arg (w_eqField p.field q.field) (by simp)) ?_
  by_cases h0 : p.field = q.field
  rotate_left
  · simp [r_w_eqArms_2, h0, Arms.eq_iff]
  simp [h0]
  by_cases h1 : p.ordinary = q.ordinary
  rotate_left
  · simp [r_w_eqArms_3, r_w_eqArms_4, h1, h0, Arms.eq_iff]
  simp [r_w_eqArms_3, h1]
  by_cases h2 : p.line = q.line
  rotate_left
  · simp [r_w_eqArms_5, r_w_eqArms_6, h2, h0, h1, Arms.eq_iff]
  simp [r_w_eqArms_5, h2]
  by_cases h3 : p.tincture = q.tincture
  rotate_left
  · simp [r_w_eqArms_7, r_w_eqArms_8, h3, h0, h1, h2, Arms.eq_iff]
  simp [r_w_eqArms_7, h3]
  simp [r_w_eqArms_9]
  refine callQ_v (PCall.arg (w_eqGroup p.on q.on) (by simp)) ?_
  by_cases h4 : p.on = q.on
  rotate_left
  · simp [r_w_eqArms_10, h4, h0, h1, h2, h3, Arms.eq_iff]
  simp [h4]
  simp [r_w_eqArms_11]
  refine callQ_v (PCall.arg (w_eqGroup p.around q.around) (by simp)) ?_
  by_cases h5 : p.around = q.around
  rotate_left
  · simp [r_w_eqArms_12, h5, h0, h1, h2, h3, h4, Arms.eq_iff]
  simp [h5]
  simp [r_w_eqArms_13, Arms.eq_iff, h0, h1, h2, h3, h4, h5]
theorem Grant.eq_iff (p q : Grant) : p = q ↔ p.number = q.number ∧ p.name = q.name ∧ p.year = q.year ∧ p.arms = q.arms := by
  cases p; cases q; simp
theorem w_eqGrant (p q : Grant) : PCall Tryz.prog n_w_eqGrant [eGrant p, eGrant q] (B (decide (p = q))) := by
  refine PCall.of fn_w_eqGrant (by simp) ?_
  simp [c_w_eqGrant, r_w_eqGrant_0]
  by_cases h0 : p.number = q.number
  rotate_left
  · simp [r_w_eqGrant_1, r_w_eqGrant_2, h0, Grant.eq_iff]
  simp [r_w_eqGrant_1, h0]
  by_cases h1 : p.name = q.name
  rotate_left
  · simp [r_w_eqGrant_3, r_w_eqGrant_4, h1, h0, Grant.eq_iff]
  simp [r_w_eqGrant_3, h1]
  by_cases h2 : p.year = q.year
  rotate_left
  · simp [r_w_eqGrant_5, r_w_eqGrant_6, h2, h0, h1, Grant.eq_iff]
  simp [r_w_eqGrant_5, h2]
  simp [r_w_eqGrant_7]
  refine callQ_v (PCall.arg (w_eqArms p.arms q.arms) (by simp)) ?_
  by_cases h3 : p.arms = q.arms
  rotate_left
  · simp [r_w_eqGrant_8, h3, h0, h1, h2, Grant.eq_iff]
  simp [h3]
  simp [r_w_eqGrant_9, Grant.eq_iff, h0, h1, h2, h3]
theorem w_eqGrantS (a b : List Grant) : PCall Tryz.prog n_w_eqGrantS [.ro 18 (a.map eGrant), .ro 18 (b.map eGrant)] (B (decide (a = b))) := by
  refine PCall.ofL fn_w_eqGrantS (by simp) fun hl => ?_
  simp at hl
  by_cases hl : a.length = b.length
  · simp [c_w_eqGrantS, r_w_eqGrantS_0, r_w_eqGrantS_1, r_w_eqGrantS_2, r_w_eqGrantS_3, r_w_eqGrantS_9, hl]
    refine loopK (fun i : Nat => ⟨[(0, .ro 18 (a.map eGrant)), (1, .ro 18 (b.map eGrant)), (5, I i)], [], []⟩) (fun i => a.length - i) (fun i => i ≤ a.length ∧ a.take i = b.take i) 0 (Wk.list rfl (by simp) (by simp)) (by simp) ?_
    rintro i ⟨hi, hj⟩ K hN hR hE
    simp [l_w_eqGrantS_8, r_w_eqGrantS_4]
    refine ⟨fun hlt => ?_, fun hge => ?_⟩
    · have hlb : i < b.length := by omega
      simp [r_w_eqGrantS_5, p_w_eqGrantS_5, hlt, hlb]
      refine callD_v (w_eqGrant a[i] b[i]) ?_ ?_ ?_
      · simp
      · simp
      simp
      refine ⟨oEnd_of (by first | kernel_rfl | simp) (by first | kernel_rfl | simp), fun hne => ?_, fun he => ?_⟩
      · simp [r_w_eqGrantS_6]
        refine hR _ ?_
        simp
        rintro rfl
        exact hne rfl
      · simp [r_w_eqGrantS_7]
        rw [wrap64 (by omega) (by omega)]
        refine hN (i + 1) _ (by omega) ⟨by omega, ?_⟩ (Wk.list rfl (by simp) (by simp))
        rw [take_succ' hlt, take_succ' hlb, hj, he]
    · refine hE _ _ ?_
      rw [List.take_of_length_le (by omega), List.take_of_length_le (by omega)] at hj
      simp [hj]
  · simp [c_w_eqGrantS, r_w_eqGrantS_0, r_w_eqGrantS_1, r_w_eqGrantS_2, hl]
    refine ⟨fun _ e => hl (by rw [e]), fun e => absurd (by omega) hl⟩
theorem w_eqRegister (a b : Register) : PCall Tryz.prog n_w_eqRegister [eRegister a, eRegister b] (B (decide (a = b))) := by
  refine PCall.of fn_w_eqRegister (by simp) ?_
  simp [c_w_eqRegister, r_w_eqRegister_0, r_w_eqRegister_1]
  refine callQ_v (PCall.arg (w_eqGrantS a b) (by simp)) ?_
  by_cases h : a = b
  · simp [r_w_eqRegister_3, h]
  · simp [r_w_eqRegister_2, h]

theorem w_toGrant (g : Grant) : PCall Tryz.prog n_w_toGrant [eGrant g] (eGrant g) := by
  refine PCall.of fn_w_toGrant (by simp) ?_
  simp [c_w_toGrant, r_w_toGrant_0, r_w_toGrant_1, r_w_toGrant_2, r_w_toGrant_3, r_w_toGrant_4, r_w_toGrant_5]
  refine callQ_of (PCall.arg (w_toArms g.arms) (by simp)) rfl (.inl (by simp)) (by simp) ?_
  simp [r_w_toGrant_6]
theorem w_szGrant (g : Grant) (left : Int) (h0 : 0 ≤ left) (h1 : left ≤ 1048576) : PCall Tryz.prog n_w_szGrant [eGrant g, I left] (I (rest left g.name.length)) := by
  refine PCall.ofL fn_w_szGrant (by simp) fun hl => ?_
  simp [lenPs, lenP] at hl
  simp [c_w_szGrant, r_w_szGrant_0, r_w_szGrant_1]
  rw [wrap64 (by omega) (by omega)]
  simp [r_w_szGrant_2, r_w_szGrant_3, r_w_szGrant_4, rest]
  constructor <;> intros <;> omega
/-- How much of a budget grants take. -/
def szG (l : List Grant) : Nat := l.length + total (l.map Grant.name)
theorem w_szGrantS (l : List Grant) (left : Int) (h0 : 0 ≤ left) (h1 : left ≤ 1048576) : PCall Tryz.prog n_w_szGrantS [.ro 18 (l.map eGrant), I left] (I (rest left (szG l))) := by
  refine PCall.ofL fn_w_szGrantS (by simp) fun hl => ?_
  simp at hl
  simp [r_w_szGrantS_0, r_w_szGrantS_1, c_w_szGrantS]
  rw [wrap64 (by omega) (by omega)]
  simp [r_w_szGrantS_2]
  refine ⟨fun hneg => ?_, fun hge => ?_⟩
  · simp [r_w_szGrantS_3, rest, szG]
    omega
  simp [r_w_szGrantS_4, r_w_szGrantS_11]
  refine loopQ_ix (fun i : Nat => ⟨[(0, .ro 18 (l.map eGrant)), (1, I (left - l.length - total ((l.map Grant.name).take i))), (5, I i)], [], []⟩) (fun i => l.length - i) (fun i => i ≤ l.length ∧ l.length + total ((l.map Grant.name).take i) ≤ left) 0 (Wk.list rfl (by simp) (by simp)) ⟨by simp, by simp; omega⟩ ?_
  rintro i ⟨hi, hb⟩
  simp [l_w_szGrantS_10, r_w_szGrantS_5]
  refine ⟨fun hlt => ?_, fun hge => ?_⟩
  · simp [r_w_szGrantS_6, hlt]
    refine callQ_v (w_szGrant l[i] (left - l.length - total ((l.map Grant.name).take i)) (by omega) (by omega)) ?_
    have e : total ((l.map Grant.name).take (i + 1)) = total ((l.map Grant.name).take i) + l[i].name.length := by rw [take_succ' (by simpa using hlt), total_append, total_cons, total_nil]; simp
    have hle : total ((l.map Grant.name).take (i + 1)) ≤ total (l.map Grant.name) := total_take_le _ _
    simp [r_w_szGrantS_7]
    refine ⟨fun hneg => ?_, fun hpos => ?_⟩
    · simp [r_w_szGrantS_8]
      unfold rest at hneg ⊢
      unfold szG
      split at hneg <;> split <;> omega
    · simp [r_w_szGrantS_9]
      have := rest_nonneg (by omega : ¬ rest (left - l.length - total ((l.map Grant.name).take i)) l[i].name.length < 0)
      rw [wrap64 (by omega) (by omega)]
      refine roundA_of (i + 1) (by omega) ⟨by omega, by omega⟩ (Wk.list rfl ?_ (by simp))
      simp only [rest, e]
      rw [if_neg (by omega)]
      simp
      omega
  · obtain rfl : i = l.length := by omega
    rw [List.take_of_length_le (by simp)] at hb ⊢
    unfold rest szG
    rw [if_neg (by omega)]
    omega
theorem w_szRegister (l : Register) (left : Int) (h0 : 0 ≤ left) (h1 : left ≤ 1048576) : PCall Tryz.prog n_w_szRegister [eRegister l, I left] (I (rest left (szG l))) := by
  refine PCall.of fn_w_szRegister (by simp) ?_
  simp [c_w_szRegister, r_w_szRegister_0, r_w_szRegister_1]
  refine callQ_v (PCall.arg (w_szGrantS l left h0 h1) (by simp)) ?_
  simp [r_w_szRegister_2, r_w_szRegister_3, r_w_szRegister_4]
  intro h
  unfold rest at h ⊢
  split at h
  · rename_i h'; rw [if_pos h']
  · rename_i h'; rw [if_neg h']; omega

theorem w_toGrantS (l : List Grant) (hl : l.length ≤ 1048576) : PCall Tryz.prog n_w_toGrantS [.ro 18 (l.map eGrant)] (.own 18 (l.map eGrant)) := by
  refine PCall.of fn_w_toGrantS (by simp) ?_
  simp [c_w_toGrantS, r_w_toGrantS_0, r_w_toGrantS_1, r_w_toGrantS_2, lenBound]
  refine ⟨by omega, ?_⟩
  simp [r_w_toGrantS_7]
  refine loopK (fun i : Nat => ⟨[(0, .ro 18 (l.map eGrant)), (3, .sl 7 0 l.length), (4, I i)], [(7, ⟨18, (l.map eGrant).take i ++ List.replicate (l.length - i) (.agg [I 0, S [], I 0, I 0, I 0, I 0, I 0, I 0, I 0, I 0, I 0, I 0, I 0, I 0, I 0, I 0, I 0, I 0])⟩)], []⟩) (fun i => l.length - i) (fun i => i ≤ l.length) 0 (Wk.list rfl (by simp) (by simp)) (by simp) ?_
  intro i hi K hN hR hE
  have hlen : ((l.map eGrant).take i).length = i := by simp; omega
  simp [l_w_toGrantS_6, r_w_toGrantS_3]
  refine ⟨fun hlt => ?_, fun hge => ?_⟩
  · simp [r_w_toGrantS_4, hlt]
    refine callQ_of (w_toGrant l[i]) rfl (.inl (by simp)) (by simp) ?_
    simp [half_get hlen hlt, hlt]
    simp [r_w_toGrantS_5]
    rw [wrap64 (by omega) (by omega)]
    refine hN (i + 1) _ (by omega) (by omega) (Wk.list rfl (by simp) ?_)
    simp [half_set hlen hlt, take_succ', hlt]
  · refine hE _ _ ?_
    obtain rfl : i = l.length := by omega
    simp
abbrev oRegister (r : Register) : V := .agg [.own 18 (r.map eGrant)]
theorem w_toRegister (l : Register) (hl : l.length ≤ 1048576) : PCall Tryz.prog n_w_toRegister [eRegister l] (oRegister l) := by
  refine PCall.of fn_w_toRegister (by simp) ?_
  simp [c_w_toRegister, r_w_toRegister_0, r_w_toRegister_1, r_w_toRegister_2]
  refine callQ_of (PCall.arg (w_toGrantS l hl) (by simp)) rfl (.inl (by simp)) (by simp) ?_
  simp [r_w_toRegister_3]
end Go.Proofs.YtbeoijlggphklaaGreatDoor

/- Registers: the test, a copy; in the program and in the reference. -/
set_option linter.unusedVariables false
set_option linter.unusedSimpArgs false
namespace Go.Proofs.YtbeoijlggphklaaGreatDoor
open Go.Abs

def g00 : Grant := ⟨0, [], 0, ⟨⟨0, 0, 0, 0⟩, 0, 0, 0, ⟨0, 0, 0, 0⟩, ⟨0, 0, 0, 0⟩⟩⟩
def upB (b : UInt8) : Bool := decide (65 ≤ b.toNat) && decide (b.toNat ≤ 90)
def lowB (b : UInt8) : Bool := decide (97 ≤ b.toNat) && decide (b.toNat ≤ 122)
def chOk (s : List UInt8) (i : Nat) : Bool := if i = 0 then upB (s.getD i 0) else lowB (s.getD i 0)
def nameOk (s : List UInt8) : Bool := inR s.length 1 12 && (List.range s.length).all (chOk s)
def grantOk (g : Grant) : Bool := inR g.number 1 999 && (nameOk g.name && (inR g.year 1000 2999 && arms g.arms))
def pairOk (p g : Grant) : Bool := decide (p.number < g.number) && decide (p.year ≤ g.year)
def stepOk (l : List Grant) (i : Nat) : Bool := grantOk (l.getD i g00) && ((decide (i = 0) || pairOk (l.getD (i - 1) g00) (l.getD i g00)) && (l.take i).all fun k => !decide (diffs k.arms (l.getD i g00).arms < 2))
def register (l : List Grant) : Bool := decide (l.length ≤ 12) && (List.range l.length).all (stepOk l)
theorem arms_field {a : Arms} (h : arms a = true) : fieldOk a.field = true := by
  simp only [arms, Bool.and_eq_true] at h
  exact h.1.1

theorem chOk_iff {s : List UInt8} {i : Nat} (h : i < s.length) : chOk s i = true ↔ (i = 0 → 65 ≤ s[i].toNat ∧ s[i].toNat ≤ 90) ∧ (i ≠ 0 → 97 ≤ s[i].toNat ∧ s[i].toNat ≤ 122) := by
  have hg : s.getD i 0 = s[i] := by simp [h]
  unfold chOk
  rw [hg]
  split
  · rename_i e; simp [upB, e]
  · rename_i e; simp [lowB, e]
theorem i_isName (s : List UInt8) : PCall Tryz.prog n_i_isName [S s] (B (nameOk s)) := by
  refine PCall.ofL fn_i_isName (by simp) fun hl => ?_
  simp at hl
  simp [c_i_isName, r_i_isName_0, r_i_isName_1, r_i_isName_8]
  refine loopK (fun i : Nat => ⟨[(0, S s), (5, I s.length), (6, I i)], [], []⟩) (fun i => s.length - i) (fun i => i ≤ s.length ∧ (List.range i).all (chOk s) = true) 0 (Wk.list rfl (by simp) (by simp)) (by simp) ?_
  rintro i ⟨hi, hj⟩ K hN hR hE
  simp [r_i_isName_2, l_i_isName_7]
  refine ⟨fun hlt => ?_, fun hge => ?_⟩
  · have hc := chOk_iff hlt
    simp [r_i_isName_3, r_i_isName_4, hlt]
    refine ⟨fun e => ⟨fun a => ⟨fun b => ⟨fun c => by omega, fun _ => ?_⟩, fun b => ?_⟩, fun a => ?_⟩, fun e => ⟨fun c => ⟨fun a => ⟨fun b => ?_, fun b => ?_⟩, fun a => ?_⟩, fun e' => absurd e' e⟩⟩
    all_goals first
      | (have h : chOk s i = true := by rw [hc]; omega
         simp [r_i_isName_6]
         rw [wrap64 (by omega) (by omega)]
         refine hN (i + 1) _ (by omega) ⟨by omega, ?_⟩ (Wk.list rfl (by simp) (by simp))
         rw [allIx_succ, hj, h]; rfl)
      | (have h : ¬ chOk s i = true := by rw [hc]; omega
         simp [r_i_isName_5]
         refine hR _ ?_
         have : nameOk s = false := by
           unfold nameOk
           rw [allIx_false hlt (by simpa using h), Bool.and_false]
         simp [this])
  · refine hE _ _ ?_
    obtain rfl : i = s.length := by omega
    simp
    refine callQ_v (i_inside ..) ?_
    simp [nameOk, hj]
theorem s_l16Name (s : List UInt8) : PCall Tryz.prog n_s_l16Name [S s] (B (nameOk s)) := by
  refine PCall.ofL fn_s_l16Name (by simp) fun hl => ?_
  simp at hl
  simp [c_s_l16Name, r_s_l16Name_0, r_s_l16Name_1]
  refine callQ_v (s_l1In ..) ?_
  cases h1 : inR s.length 1 12 with
  | false => simp [r_s_l16Name_2, nameOk, h1]
  | true =>
  have h1' := inR_iff.1 h1
  have h0 : 0 < s.length := by omega
  have hc := chOk_iff h0
  have bad : ∀ i, i < s.length → ¬ chOk s i = true → nameOk s = false := fun i hlt h => by
    unfold nameOk
    rw [allIx_false hlt (by simpa using h), Bool.and_false]
  simp [h0]
  refine ⟨fun a => ⟨fun b => ?_, fun b => ?_⟩, fun a => ?_⟩
  · have := bad 0 h0 (by rw [hc]; omega)
    simp [r_s_l16Name_2, this]
  rotate_left
  · have := bad 0 h0 (by rw [hc]; omega)
    simp [r_s_l16Name_2, this]
  have hc0 : chOk s 0 = true := by rw [hc]; omega
  simp [r_s_l16Name_3, r_s_l16Name_9]
  refine loopK (fun i : Nat => ⟨[(0, S s), (3, I i)], [], []⟩) (fun i => s.length - i) (fun i => (1 ≤ i ∧ i ≤ s.length) ∧ (List.range i).all (chOk s) = true) 1 (Wk.list rfl (by simp) (by simp)) ⟨by omega, by simp [hc0]⟩ ?_
  rintro i ⟨⟨h1i, hi⟩, hj⟩ K hN hR hE
  simp [r_s_l16Name_4, l_s_l16Name_8]
  refine ⟨fun hlt => ?_, fun hge => ?_⟩
  · have hc := chOk_iff hlt
    simp [r_s_l16Name_5, hlt]
    refine ⟨fun a => ⟨fun b => ?_, fun b => ?_⟩, fun a => ?_⟩
    all_goals first
      | (have h : chOk s i = true := by rw [hc]; omega
         simp [r_s_l16Name_7]
         rw [wrap64 (by omega) (by omega)]
         refine hN (i + 1) _ (by omega) ⟨by omega, ?_⟩ (Wk.list rfl (by simp) (by simp))
         rw [allIx_succ, hj, h]; rfl)
      | (have h : ¬ chOk s i = true := by rw [hc]; omega
         simp [r_s_l16Name_6]
         refine hR _ ?_
         simp [bad i hlt h])
  · refine hE _ _ ?_
    obtain rfl : i = s.length := by omega
    simp [nameOk, h1, hj]
theorem s_l16Grant (g : Grant) : PCall Tryz.prog n_s_l16Grant [eGrant g] (B (grantOk g)) := by
  refine PCall.of fn_s_l16Grant (by simp) ?_
  simp [c_s_l16Grant, r_s_l16Grant_0, r_s_l16Grant_1]
  refine callQ_v (s_l1In ..) ?_
  cases h1 : inR g.number 1 999 with
  | false => simp [grantOk, h1]
  | true =>
  simp
  refine callQ_v (s_l16Name ..) ?_
  cases h2 : nameOk g.name with
  | false => simp [grantOk, h2]
  | true =>
  simp
  refine callQ_v (s_l1In ..) ?_
  cases h3 : inR g.year 1000 2999 with
  | false => simp [grantOk, h3]
  | true =>
  simp
  refine callQ_v (PCall.arg (s_l5Good g.arms) (by simp)) ?_
  simp [grantOk, h1, h2, h3]
theorem step_false {l : List Grant} {i : Nat} (h : i < l.length) (hs : stepOk l i = false) : register l = false := by
  unfold register
  rw [allIx_false h hs, Bool.and_false]
theorem s_l16Good (l : Register) : PCall Tryz.prog n_s_l16Good [eRegister l] (B (register l)) := by
  refine PCall.of fn_s_l16Good (by simp) ?_
  simp [c_s_l16Good, r_s_l16Good_0, r_s_l16Good_1]
  refine ⟨fun h => ?_, fun h12 => ?_⟩
  · have : register l = false := by simp [register]; omega
    simp [r_s_l16Good_2, this]
  simp [r_s_l16Good_3, r_s_l16Good_15]
  refine loopK (fun i : Nat => ⟨[(1, .ref 1 0 0), (3, I i)], [(1, ⟨1, [eRegister l]⟩)], []⟩) (fun i => l.length - i) (fun i => i ≤ l.length ∧ (List.range i).all (stepOk l) = true) 0 (Wk.list rfl (by simp) (by simp)) (by simp) ?_
  rintro i ⟨hi, hj⟩ K hN hR hE
  simp [r_s_l16Good_4, l_s_l16Good_14]
  refine ⟨fun hlt => ?_, fun hge => ?_⟩
  · have hg : l.getD i g00 = l[i] := by simp [hlt]
    simp [r_s_l16Good_5, p_s_l16Good_5, hlt]
    refine callD_v (s_l16Grant l[i]) ?_ ?_ ?_
    · simp
    · simp
    cases h1 : grantOk l[i] with
    | false =>
      simp
      refine ⟨oEnd_of (by first | kernel_rfl | simp) (by first | kernel_rfl | simp), ?_⟩
      simp [r_s_l16Good_6]
      refine hR _ ?_
      have : stepOk l i = false := by rw [stepOk, hg, h1]; rfl
      simp [step_false hlt this]
    | true =>
      simp
      have hk : i ≠ 0 → IntKind.i64.wrap ((i : Int) - 1) = ((i - 1 : Nat) : Int) := fun e => by rw [wrap64 (by omega) (by omega)]; omega
      have hil : i - 1 < l.length := by omega
      have hgl : l.getD (i - 1) g00 = l[i - 1] := by simp [hil]
      have hpr : (decide (i = 0) || pairOk (l.getD (i - 1) g00) (l.getD i g00)) = true ↔ i = 0 ∨ (l[i - 1].number < l[i].number ∧ l[i - 1].year ≤ l[i].year) := by
        rw [hg, hgl]; simp [pairOk]
      have hst : stepOk l i = ((decide (i = 0) || pairOk (l.getD (i - 1) g00) (l.getD i g00)) && (l.take i).all fun k => !decide (diffs k.arms l[i].arms < 2)) := by
        rw [stepOk, hg, h1, Bool.true_and]
      refine ⟨fun e => ?_, fun e => ?_⟩
      · have e' : i ≠ 0 := by omega
        simp [hk e', hlt, hil]
        refine ⟨fun a => ⟨oEnd_of (by first | kernel_rfl | simp) (by first | kernel_rfl | simp), fun b => ?_, fun b => ?_⟩, fun a => ⟨oEnd_of (by first | kernel_rfl | simp) (by first | kernel_rfl | simp), ?_⟩⟩
        all_goals first
          | (have hp : (decide (i = 0) || pairOk (l.getD (i - 1) g00) (l.getD i g00)) = true := hpr.2 (by omega)
             simp [r_s_l16Good_7, r_s_l16Good_13]
             refine loopK (fun k : Nat => ⟨[(1, .ref 1 0 0), (3, I i), (4, I k)], [(1, ⟨1, [eRegister l]⟩)], []⟩) (fun k => i - k) (fun k => k ≤ i ∧ ((l.take k).all fun k => !decide (diffs k.arms l[i].arms < 2)) = true) 0 (Wk.list rfl (by simp) (by simp)) (by simp) ?_
             rintro k ⟨hki, hkj⟩ K' hN' hR' hE'
             have hkl : k ≤ l.length := by omega
             simp [r_s_l16Good_8, l_s_l16Good_12]
             refine ⟨fun hlk => ?_, fun hgk => ?_⟩
             · have hkl' : k < l.length := by omega
               simp [r_s_l16Good_9, p_s_l16Good_9, hlt, hkl']
               refine callD_v (PCall.arg (s_l15Conflict l[k].arms l[i].arms) (by simp)) ?_ ?_ ?_
               · simp
               · simp
               cases hd : decide (diffs l[k].arms l[i].arms < 2) with
               | true =>
                 simp
                 refine ⟨oEnd_of (by first | kernel_rfl | simp) (by first | kernel_rfl | simp), ?_⟩
                 simp [r_s_l16Good_10]
                 refine hR' _ ?_
                 have hgk : k < (l.take i).length := by rw [List.length_take]; omega
                 have : stepOk l i = false := by
                   rw [hst, hp, Bool.true_and]
                   refine all_false hgk ?_
                   rw [List.getElem_take, hd]; rfl
                 simp
                 refine hR _ ?_
                 simp [step_false hlt this]
               | false =>
                 simp
                 refine ⟨oEnd_of (by first | kernel_rfl | simp) (by first | kernel_rfl | simp), ?_⟩
                 simp [r_s_l16Good_11]
                 rw [wrap64 (by omega) (by omega)]
                 refine hN' (k + 1) _ (by omega) ⟨by omega, ?_⟩ (Wk.list rfl (by simp) (by simp))
                 rw [all_take_succ hkl', hkj, hd]; rfl
             · obtain rfl : k = i := by omega
               refine hE' _ _ ?_
               simp
               rw [wrap64 (by omega) (by omega)]
               refine hN (k + 1) _ (by omega) ⟨by omega, ?_⟩ (Wk.list rfl (by simp) (by simp))
               rw [allIx_succ, hj, hst, hp, hkj]; rfl)
          | (have hp : ¬ (decide (i = 0) || pairOk (l.getD (i - 1) g00) (l.getD i g00)) = true := by rw [hpr]; omega
             simp [r_s_l16Good_6]
             refine hR _ ?_
             have : stepOk l i = false := by rw [hst, Bool.eq_false_iff.2 hp, Bool.false_and]
             simp [step_false hlt this])
      · have hp : (decide (i = 0) || pairOk (l.getD (i - 1) g00) (l.getD i g00)) = true := hpr.2 (by omega)
        refine ⟨oEnd_of (by first | kernel_rfl | simp) (by first | kernel_rfl | simp), ?_⟩
        simp [r_s_l16Good_7, r_s_l16Good_13]
        refine loopK (fun k : Nat => ⟨[(1, .ref 1 0 0), (3, I i), (4, I k)], [(1, ⟨1, [eRegister l]⟩)], []⟩) (fun k => i - k) (fun k => k ≤ i ∧ ((l.take k).all fun k => !decide (diffs k.arms l[i].arms < 2)) = true) 0 (Wk.list rfl (by simp) (by simp)) (by simp) ?_
        rintro k ⟨hki, hkj⟩ K' hN' hR' hE'
        have hkl : k ≤ l.length := by omega
        simp [r_s_l16Good_8, l_s_l16Good_12]
        refine ⟨fun hlk => ?_, fun hgk => ?_⟩
        · have hkl' : k < l.length := by omega
          simp [r_s_l16Good_9, p_s_l16Good_9, hlt, hkl']
          refine callD_v (PCall.arg (s_l15Conflict l[k].arms l[i].arms) (by simp)) ?_ ?_ ?_
          · simp
          · simp
          cases hd : decide (diffs l[k].arms l[i].arms < 2) with
          | true =>
            simp
            refine ⟨oEnd_of (by first | kernel_rfl | simp) (by first | kernel_rfl | simp), ?_⟩
            simp [r_s_l16Good_10]
            refine hR' _ ?_
            have hgk : k < (l.take i).length := by rw [List.length_take]; omega
            have : stepOk l i = false := by
              rw [hst, hp, Bool.true_and]
              refine all_false hgk ?_
              rw [List.getElem_take, hd]; rfl
            simp
            refine hR _ ?_
            simp [step_false hlt this]
          | false =>
            simp
            refine ⟨oEnd_of (by first | kernel_rfl | simp) (by first | kernel_rfl | simp), ?_⟩
            simp [r_s_l16Good_11]
            rw [wrap64 (by omega) (by omega)]
            refine hN' (k + 1) _ (by omega) ⟨by omega, ?_⟩ (Wk.list rfl (by simp) (by simp))
            rw [all_take_succ hkl', hkj, hd]; rfl
        · obtain rfl : k = i := by omega
          refine hE' _ _ ?_
          simp
          rw [wrap64 (by omega) (by omega)]
          refine hN (k + 1) _ (by omega) ⟨by omega, ?_⟩ (Wk.list rfl (by simp) (by simp))
          rw [allIx_succ, hj, hst, hp, hkj]; rfl
  · refine hE _ _ ?_
    obtain rfl : i = l.length := by omega
    have : l.length ≤ 12 := by omega
    simp [register, this, hj]
theorem slices_IndexFunc_i_Grant_i_Grant (l : List Grant) (p : Grant → Bool) (g : Nat) (caps : List V) (hc : ∀ hp, caps.map (borrow hp 6) = caps) (hp : ∀ x ∈ l, PCall Tryz.prog g (eGrant x :: caps) (B (p x))) :
    PCall Tryz.prog n_slices_IndexFunc_i_Grant_i_Grant [.ro 18 (l.map eGrant), .clo g caps] (I (idx p l)) := by
  refine PCall.ofL fn_slices_IndexFunc_i_Grant_i_Grant (by simp) fun hl => ?_
  simp at hl
  simp [c_slices_IndexFunc_i_Grant_i_Grant, r_slices_IndexFunc_i_Grant_i_Grant_0, r_slices_IndexFunc_i_Grant_i_Grant_1, r_slices_IndexFunc_i_Grant_i_Grant_8]
  refine loopQ_ix (fun i : Nat => ⟨[(0, .ro 18 (l.map eGrant)), (1, .clo g caps), (7, I l.length), (8, I i)], [], []⟩) (fun i => l.length - i) (fun i => i ≤ l.length ∧ ∀ j (_ : j < i) (hj : j < l.length), p l[j] = false) 0 (Wk.list rfl (by simp) (by simp)) (by simp) ?_
  rintro i ⟨hi, hj⟩
  simp [r_slices_IndexFunc_i_Grant_i_Grant_2, l_slices_IndexFunc_i_Grant_i_Grant_7]
  refine ⟨fun hlt => ?_, fun hge => ?_⟩
  · simp [r_slices_IndexFunc_i_Grant_i_Grant_3, r_slices_IndexFunc_i_Grant_i_Grant_4, hlt]
    refine callQ_v (PCall.arg (hp l[i] (List.getElem_mem _)) (by simp [hc])) ?_
    simp
    refine ⟨fun ht => ?_, fun hf => ?_⟩
    · simp [r_slices_IndexFunc_i_Grant_i_Grant_5]
      exact (idx_at hlt (fun j h => hj j h (by omega)) ht).symm
    · simp [r_slices_IndexFunc_i_Grant_i_Grant_6]
      rw [wrap64 (by omega) (by omega)]
      refine roundA_of (i + 1) (by omega) ⟨by omega, fun j h h' => ?_⟩ (Wk.list rfl (by simp) (by simp))
      by_cases e : j = i
      · subst e; exact hf
      · exact hj j (by omega) h'
  · have : idx p l = -1 := idx_none fun j h => hj j (by omega) h
    simp [this]
theorem slices_ContainsFunc_i_Grant_i_Grant (l : List Grant) (p : Grant → Bool) (g : Nat) (caps : List V) (hc : ∀ hp, caps.map (borrow hp 6) = caps) (hc5 : ∀ hp, caps.map (borrow hp 5) = caps) (hp : ∀ x ∈ l, PCall Tryz.prog g (eGrant x :: caps) (B (p x))) :
    PCall Tryz.prog n_slices_ContainsFunc_i_Grant_i_Grant [.ro 18 (l.map eGrant), .clo g caps] (B (l.any p)) := by
  refine PCall.of fn_slices_ContainsFunc_i_Grant_i_Grant (by simp) ?_
  simp [c_slices_ContainsFunc_i_Grant_i_Grant, r_slices_ContainsFunc_i_Grant_i_Grant_0, r_slices_ContainsFunc_i_Grant_i_Grant_1]
  refine callQ_v (PCall.arg (slices_IndexFunc_i_Grant_i_Grant l p g caps hc hp) (by simp [hc5])) ?_
  simp [← idx_any]
theorem i_IsValidRegister_1 (g : Grant) (x : Grant) (hx : fieldOk x.arms.field = true) (hg : fieldOk g.arms.field = true) : PCall Tryz.prog n_i_IsValidRegister_1 [eGrant x, .rp 18 [eGrant g] 0 0] (B (decide (diffs x.arms g.arms < 2))) := by
  refine PCall.of fn_i_IsValidRegister_1 (by simp) ?_
  simp [c_i_IsValidRegister_1, r_i_IsValidRegister_1_0, r_i_IsValidRegister_1_1]
  refine callQ_v (PCall.arg (i_conflict x.arms g.arms hx hg) (by simp)) ?_
  simp
theorem ok_field {g : Grant} (h : grantOk g = true) : fieldOk g.arms.field = true := by
  simp only [grantOk, Bool.and_eq_true] at h
  exact arms_field h.2.2.2
theorem take_field {l : List Grant} {i : Nat} (hi : i ≤ l.length) (hj : (List.range i).all (stepOk l) = true) : ∀ x ∈ l.take i, fieldOk x.arms.field = true := by
  intro x hx
  obtain ⟨j, hjl, rfl⟩ := List.getElem_of_mem hx
  rw [List.getElem_take]
  rw [List.length_take] at hjl
  have := List.all_eq_true.1 hj j (List.mem_range.2 (by omega))
  have hgj : l.getD j g00 = l[j] := by
    have : j < l.length := by omega
    simp [this]
  rw [stepOk, hgj] at this
  simp only [Bool.and_eq_true] at this
  exact ok_field this.1
theorem i_IsValidRegister (l : Register) : PCall Tryz.prog n_i_IsValidRegister [eRegister l] (B (register l)) := by
  refine PCall.ofL fn_i_IsValidRegister (by simp) fun hl => ?_
  simp at hl
  simp [c_i_IsValidRegister, r_i_IsValidRegister_0, r_i_IsValidRegister_1, r_i_IsValidRegister_12]
  refine loopK (fun i : Nat => ⟨[(1, .ref 1 0 0), (6, .ro 18 (l.map eGrant)), (7, I l.length), (8, I i)], [(1, ⟨1, [eRegister l]⟩)], []⟩) (fun i => l.length - i) (fun i => i ≤ l.length ∧ (List.range i).all (stepOk l) = true) 0 (Wk.list rfl (by simp) (by simp)) (by simp) ?_
  rintro i ⟨hi, hj⟩ K hN hR hE
  simp [r_i_IsValidRegister_2, l_i_IsValidRegister_11]
  refine ⟨fun hlt => ?_, fun hge => ?_⟩
  · have hg : l.getD i g00 = l[i] := by simp [hlt]
    simp [r_i_IsValidRegister_3, hlt]
    simp [r_i_IsValidRegister_4]
    have no : grantOk l[i] = false → stepOk l i = false := fun h => by rw [stepOk, hg, h]; rfl
    refine callQ_v (i_inside ..) ?_
    cases h1 : inR l[i].number 1 999 with
    | false =>
      simp [r_i_IsValidRegister_5]
      refine hR _ ?_
      simp [step_false hlt (no (by simp [grantOk, h1]))]
    | true =>
    simp
    refine callQ_v (i_isName ..) ?_
    cases h2 : nameOk l[i].name with
    | false =>
      simp [r_i_IsValidRegister_5]
      refine hR _ ?_
      simp [step_false hlt (no (by simp [grantOk, h2]))]
    | true =>
    simp
    refine callQ_v (i_inside ..) ?_
    cases h3 : inR l[i].year 1000 2999 with
    | false =>
      simp [r_i_IsValidRegister_5]
      refine hR _ ?_
      simp [step_false hlt (no (by simp [grantOk, h3]))]
    | true =>
    simp
    refine callQ_v (PCall.arg (i_IsValidArms l[i].arms) (by simp)) ?_
    cases h4 : arms l[i].arms with
    | false =>
      simp [r_i_IsValidRegister_5]
      refine hR _ ?_
      simp [step_false hlt (no (by simp [grantOk, h4]))]
    | true =>
    have hok : grantOk l[i] = true := by simp [grantOk, h1, h2, h3, h4]
    have hk : i ≠ 0 → IntKind.i64.wrap ((i : Int) - 1) = ((i - 1 : Nat) : Int) := fun e => by rw [wrap64 (by omega) (by omega)]; omega
    have hil : i - 1 < l.length := by omega
    have hgl : l.getD (i - 1) g00 = l[i - 1] := by simp [hil]
    have hpr : (decide (i = 0) || pairOk (l.getD (i - 1) g00) (l.getD i g00)) = true ↔ i = 0 ∨ (l[i - 1].number < l[i].number ∧ l[i - 1].year ≤ l[i].year) := by
      rw [hg, hgl]; simp [pairOk]
    have hst : stepOk l i = ((decide (i = 0) || pairOk (l.getD (i - 1) g00) (l.getD i g00)) && (l.take i).all fun k => !decide (diffs k.arms l[i].arms < 2)) := by
      rw [stepOk, hg, hok, Bool.true_and]
    have hany : ((l.take i).any fun k => decide (diffs k.arms l[i].arms < 2)) = !((l.take i).all fun k => !decide (diffs k.arms l[i].arms < 2)) := by
      rw [List.all_eq_not_any_not]; simp
    simp [r_i_IsValidRegister_6, p_i_IsValidRegister_6]
    refine ⟨fun e => ?_, fun e => ?_⟩
    · have e' : i ≠ 0 := by omega
      simp [hk e', hlt, hil]
      refine ⟨fun a => ⟨oEnd_of (by first | kernel_rfl | simp) (by first | kernel_rfl | simp), fun b => ?_, fun b => ?_⟩, fun a => ⟨oEnd_of (by first | kernel_rfl | simp) (by first | kernel_rfl | simp), ?_⟩⟩
      all_goals first
        | (have hp : (decide (i = 0) || pairOk (l.getD (i - 1) g00) (l.getD i g00)) = true := hpr.2 (by omega)
           have hi' : i ≤ l.length := by omega
           have hf := take_field hi' hj
           have hfi := ok_field hok
           simp [r_i_IsValidRegister_8, hi']
           refine callQ_v (PCall.arg (slices_ContainsFunc_i_Grant_i_Grant (l.take i) (fun k => decide (diffs k.arms l[i].arms < 2)) n_i_IsValidRegister_1 [.rp 18 [eGrant l[i]] 0 0] (by simp) (by simp) (fun x hx => i_IsValidRegister_1 l[i] x (hf x hx) hfi)) (by simp)) ?_
           rw [hany]
           cases hd : (l.take i).all fun k => !decide (diffs k.arms l[i].arms < 2) with
           | false =>
             simp [r_i_IsValidRegister_9]
             refine hR _ ?_
             have : stepOk l i = false := by rw [hst, hd, Bool.and_false]
             simp [step_false hlt this]
           | true =>
             simp [r_i_IsValidRegister_10]
             rw [wrap64 (by omega) (by omega)]
             refine hN (i + 1) _ (by omega) ⟨by omega, ?_⟩ (Wk.list rfl (by simp) (by simp))
             rw [allIx_succ, hj, hst, hp, hd]; rfl)
        | (have hp : ¬ (decide (i = 0) || pairOk (l.getD (i - 1) g00) (l.getD i g00)) = true := by rw [hpr]; omega
           simp [r_i_IsValidRegister_7]
           refine hR _ ?_
           have : stepOk l i = false := by rw [hst, Bool.eq_false_iff.2 hp, Bool.false_and]
           simp [step_false hlt this])
    · have hp : (decide (i = 0) || pairOk (l.getD (i - 1) g00) (l.getD i g00)) = true := hpr.2 (by omega)
      refine ⟨oEnd_of (by first | kernel_rfl | simp) (by first | kernel_rfl | simp), ?_⟩
      have hi' : i ≤ l.length := by omega
      have hf := take_field hi' hj
      have hfi := ok_field hok
      simp [r_i_IsValidRegister_8, hi']
      refine callQ_v (PCall.arg (slices_ContainsFunc_i_Grant_i_Grant (l.take i) (fun k => decide (diffs k.arms l[i].arms < 2)) n_i_IsValidRegister_1 [.rp 18 [eGrant l[i]] 0 0] (by simp) (by simp) (fun x hx => i_IsValidRegister_1 l[i] x (hf x hx) hfi)) (by simp)) ?_
      rw [hany]
      cases hd : (l.take i).all fun k => !decide (diffs k.arms l[i].arms < 2) with
      | false =>
        simp [r_i_IsValidRegister_9]
        refine hR _ ?_
        have : stepOk l i = false := by rw [hst, hd, Bool.and_false]
        simp [step_false hlt this]
      | true =>
        simp [r_i_IsValidRegister_10]
        rw [wrap64 (by omega) (by omega)]
        refine hN (i + 1) _ (by omega) ⟨by omega, ?_⟩ (Wk.list rfl (by simp) (by simp))
        rw [allIx_succ, hj, hst, hp, hd]; rfl
  · refine hE _ _ ?_
    obtain rfl : i = l.length := by omega
    simp [register, hj]
    omega
theorem register_len {l : Register} (h : register l = true) : l.length ≤ 12 := by
  simp only [register, Bool.and_eq_true, decide_eq_true_iff] at h
  exact h.1
end Go.Proofs.YtbeoijlggphklaaGreatDoor
