/- The numbers of the functions: written by a program of this claim. -/
import Derived.Test.YtcfmohcpfmedaaaGreatDoorProg
import Derived.Test.YtcfmohcpfmedaaaGreatDoorAbs3
import Derived.KernelRfl
import Derived.Lib.ItoaNum
import Derived.Lib.LaidTab
namespace Go.Proofs.YtcfmohcpfmedaaaGreatDoor
def n_main_main : Nat := 0
def n_gosem_cut : Nat := 1
def n_gosem_cut_init : Nat := 2
def n_w_FnExactIsValidConsole : Nat := 3
def n_w_szConsole : Nat := 4
def n_s_IsValidConsole : Nat := 5
def n_w_toConsole : Nat := 6
def n_i_IsValidConsole : Nat := 7
def n_w_eqConsole : Nat := 8
def n_w_szRegister : Nat := 9
def n_w_szLog : Nat := 10
def n_s_l28Good : Nat := 11
def n_w_toRegister : Nat := 12
def n_w_toLog : Nat := 13
def n_i_IsValidRegister : Nat := 14
def n_i_IsValidLog : Nat := 15
def n_w_eqRegister : Nat := 16
def n_w_eqLog : Nat := 17
def n_w_szGrantS : Nat := 18
def n_s_l16Good : Nat := 19
def n_s_l27Log : Nat := 20
def n_w_toGrantS : Nat := 21
def n_i_inside : Nat := 22
def n_i_isName : Nat := 23
def n_i_IsValidArms : Nat := 24
def n_slices_ContainsFunc_i_Grant_i_Grant : Nat := 25
def n_i_IsValidRegister_1 : Nat := 26
def n_i_conflict : Nat := 27
def n_i_readRecords : Nat := 28
def n_w_eqGrantS : Nat := 29
def n_w_szGrant : Nat := 30
def n_s_l16Grant : Nat := 31
def n_s_l15Conflict : Nat := 32
def n_s_l27Open : Nat := 33
def n_w_toGrant : Nat := 34
def n_i_IsValidField : Nat := 35
def n_i_isGroup : Nat := 36
def n_i_isOrdinary : Nat := 37
def n_slices_IndexFunc_i_Grant_i_Grant : Nat := 38
def n_i_differences : Nat := 39
def n_i_readRecord : Nat := 40
def n_w_eqGrant : Nat := 41
def n_s_l1In : Nat := 42
def n_s_l16Name : Nat := 43
def n_s_l5Good : Nat := 44
def n_s_l15Count : Nat := 45
def n_s_l1Split : Nat := 46
def n_s_l27Read : Nat := 47
def n_w_toArms : Nat := 48
def n_i_isLine : Nat := 49
def n_i_IsTincture : Nat := 50
def n_i_IsValidGroup : Nat := 51
def n_i_FieldDifferences : Nat := 52
def n_i_groupDifferences : Nat := 53
def n_i_number : Nat := 54
def n_strings_Cut : Nat := 55
def n_i_IsValidRecord : Nat := 56
def n_i_encodeRecord : Nat := 57
def n_w_eqArms : Nat := 58
def n_s_l3Good : Nat := 59
def n_s_l4None : Nat := 60
def n_s_l4Group : Nat := 61
def n_s_l3Line : Nat := 62
def n_s_l2Good : Nat := 63
def n_s_l3Differences : Nat := 64
def n_s_l4Differences : Nat := 65
def n_s_l1Num : Nat := 66
def n_s_l27Good : Nat := 67
def n_s_l27Line : Nat := 68
def n_w_toField : Nat := 69
def n_w_toGroup : Nat := 70
def n_i_isKind : Nat := 71
def n_i_attitudes : Nat := 72
def n_slices_Equal_int_int : Nat := 73
def n_i_Field_tinctures : Nat := 74
def n_internal_stringslite_Cut : Nat := 75
def n_i_isPlain : Nat := 76
def n_strings_Contains : Nat := 77
def n_i_AppendChecksum : Nat := 78
def n_strconv_Itoa : Nat := 79
def n_w_eqField : Nat := 80
def n_w_eqGroup : Nat := 81
def n_s_l4Kind : Nat := 82
def n_s_l4Beast : Nat := 83
def n_s_l1Same : Nat := 84
def n_s_l3Tinctures : Nat := 85
def n_s_l27Plain : Nat := 86
def n_s_l1Stands : Nat := 87
def n_s_l1Seal : Nat := 88
def n_internal_stringslite_Index : Nat := 89
def n_strings_Index : Nat := 90
def n_i_checksum : Nat := 91
def n_internal_strconv_Itoa : Nat := 92
def n_s_l1Sum : Nat := 93
def n_internal_stringslite_IndexByte : Nat := 94
def n_internal_bytealg_IndexString : Nat := 95
def n_internal_bytealg_Cutover : Nat := 96
def n_internal_bytealg_IndexRabinKarp_string : Nat := 97
def n_internal_strconv_FormatInt : Nat := 98
def n_internal_bytealg_IndexByteString : Nat := 99
def n_internal_bytealg_hashStr_string : Nat := 100
def n_internal_strconv_small : Nat := 101
def n_internal_strconv_numDigits : Nat := 102
def n_internal_strconv_formatBase10 : Nat := 103
def n_internal_strconv_formatBits : Nat := 104
def n_internal_strconv_log10Pow2 : Nat := 105
def n_math_bits_Len64 : Nat := 106
def n_internal_strconv_bool2_int : Nat := 107
def n_internal_strconv_isPowerOfTwo : Nat := 108
def n_math_bits_TrailingZeros : Nat := 109
def n_math_bits_TrailingZeros32 : Nat := 110
def n_math_bits_TrailingZeros64 : Nat := 111
def n_runtime_boundsError_Error : Nat := 112
def n_runtime_boundsError_RuntimeError : Nat := 113
def n_runtime_errorString_Error : Nat := 114
def n_runtime_errorString_RuntimeError : Nat := 115
def n_runtime_plainError_Error : Nat := 116
def n_runtime_plainError_RuntimeError : Nat := 117
def n_runtime_errorAddressString_Error : Nat := 118
def n_runtime_errorAddressString_RuntimeError : Nat := 119
def n_runtime_TypeAssertionError_Error : Nat := 120
def n_runtime_TypeAssertionError_RuntimeError : Nat := 121
def n_runtime_PanicNilError_Error : Nat := 122
def n_runtime_PanicNilError_RuntimeError : Nat := 123
def n_internal_abi_Type_Align : Nat := 124
def n_internal_runtime_maps_unhashableTypeError_Error : Nat := 125
def n_internal_runtime_maps_unhashableTypeError_RuntimeError : Nat := 126
def n_i_Register_grantIn : Nat := 127
def n_i_Field_text : Nat := 128
def n_i_Group_text : Nat := 129
def n_i_Arms_charges : Nat := 130
def n_internal_abi_Kind_String : Nat := 131
def n_var_s_door_gosem_cut_vars_holds_initialisers_alone_see_the_manifest_s_row_cutvarsword_look_11_test_files_too : Nat := 132
def n_var_s_door_internal_strconv_uint64pow10_is_laid_by_its_own_initialiser_plain_data_look_11 : Nat := 133
def n_var_s_door_math_bits_deBruijn32tab_is_laid_by_its_own_initialiser_plain_data_look_11 : Nat := 134
def n_var_s_door_math_bits_deBruijn64tab_is_laid_by_its_own_initialiser_plain_data_look_11 : Nat := 135
def n_var_s_door_the_look_of_gosem_cut_vars_went_over_the_folder_that_the_caller_named_as_the_repository_s_root_look_11 : Nat := 136
def n_gosem_cut_vars : Nat := 137
theorem gPow : Tryz.prog.globalNamed "internal/strconv.uint64pow10" = some 1 := by kernel_rfl
/-- Of the package variables: the table of strconv. -/
instance : Abs.GInv where
  holds w D := Lib.TabIs Tryz.prog w "internal/strconv.uint64pow10" .u64 Lib.pow10Tab ∧ D 1
  mono := by
    rintro w w' D D' ⟨h1, h2⟩ hD hh
    refine ⟨?_, hD _ h2⟩
    unfold Lib.TabIs World.var? at h1 ⊢
    rw [gPow] at h1 ⊢
    simp only [Option.bind_some] at h1 ⊢
    rw [hh _ h2]; exact h1
end Go.Proofs.YtcfmohcpfmedaaaGreatDoor
