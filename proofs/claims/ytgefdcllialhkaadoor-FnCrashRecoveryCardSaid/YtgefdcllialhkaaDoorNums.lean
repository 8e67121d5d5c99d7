/- The numbers of the functions: written by a program of this claim. -/
import Derived.Test.YtgefdcllialhkaaDoorProg
import Derived.Test.YtgefdcllialhkaaDoorAbs3
import Derived.KernelRfl
import Derived.Lib.ItoaNum
import Derived.Lib.LaidTab
namespace Go.Proofs.YtgefdcllialhkaaDoor
def n_main_main : Nat := 0
def n_gosem_cut : Nat := 1
def n_gosem_cut_init : Nat := 2
def n_w_FnExactCrashLog : Nat := 3
def n_w_FnLog : Nat := 4
def n_w_FnLogLines : Nat := 5
def n_w_FnCrashRecovery : Nat := 6
def n_w_szLog : Nat := 7
def n_s_CrashLog : Nat := 8
def n_w_toLog : Nat := 9
def n_i_CrashLog : Nat := 10
def n_w_vBig : Nat := 11
def n_s_DrawAppendRecord : Nat := 12
def n_i_AppendRecord : Nat := 13
def n_s_AppendRecord : Nat := 14
def n_i_IsValidLog : Nat := 15
def n_s_IsValidLog : Nat := 16
def n_i_IsValidRecord : Nat := 17
def n_s_IsValidRecord : Nat := 18
def n_i_LogRecords : Nat := 19
def n_i_RecoverLog : Nat := 20
def n_i_SyncLog : Nat := 21
def n_s_DrawEncodeRecord : Nat := 22
def n_i_EncodeRecord : Nat := 23
def n_s_EncodeRecord : Nat := 24
def n_s_DrawRecoverLog : Nat := 25
def n_s_RecoverLog : Nat := 26
def n_s_DrawCrashLog : Nat := 27
def n_s_LogRecords : Nat := 28
def n_s_l27Log : Nat := 29
def n_s_l1In : Nat := 30
def n_i_inside : Nat := 31
def n_s_l1Cur_anyLog : Nat := 32
def n_s_l1Cur_one : Nat := 33
def n_s_l1Cur_pick : Nat := 34
def n_s_l1Cur_logRecord : Nat := 35
def n_i_encodeRecord : Nat := 36
def n_s_l27Good : Nat := 37
def n_s_l27Line : Nat := 38
def n_i_readRecords : Nat := 39
def n_i_isPlain : Nat := 40
def n_strings_Contains : Nat := 41
def n_s_l1Cur_among : Nat := 42
def n_s_l1Cur_log : Nat := 43
def n_s_l1Cur_spoilt : Nat := 44
def n_s_l27Open : Nat := 45
def n_s_l1Cur_next : Nat := 46
def n_s_l1Cur_of : Nat := 47
def n_i_AppendChecksum : Nat := 48
def n_strconv_Itoa : Nat := 49
def n_s_l27Plain : Nat := 50
def n_s_l1Stands : Nat := 51
def n_s_l1Seal : Nat := 52
def n_s_l1Num : Nat := 53
def n_i_readRecord : Nat := 54
def n_strings_Index : Nat := 55
def n_s_SyncLog : Nat := 56
def n_s_l1Split : Nat := 57
def n_s_l27Read : Nat := 58
def n_i_checksum : Nat := 59
def n_internal_strconv_Itoa : Nat := 60
def n_s_l1Sum : Nat := 61
def n_strings_Cut : Nat := 62
def n_internal_stringslite_Index : Nat := 63
def n_internal_strconv_FormatInt : Nat := 64
def n_internal_stringslite_Cut : Nat := 65
def n_internal_stringslite_IndexByte : Nat := 66
def n_internal_bytealg_IndexString : Nat := 67
def n_internal_bytealg_Cutover : Nat := 68
def n_internal_bytealg_IndexRabinKarp_string : Nat := 69
def n_internal_strconv_small : Nat := 70
def n_internal_strconv_numDigits : Nat := 71
def n_internal_strconv_formatBase10 : Nat := 72
def n_internal_strconv_formatBits : Nat := 73
def n_internal_bytealg_IndexByteString : Nat := 74
def n_internal_bytealg_hashStr_string : Nat := 75
def n_internal_strconv_log10Pow2 : Nat := 76
def n_math_bits_Len64 : Nat := 77
def n_internal_strconv_bool2_int : Nat := 78
def n_internal_strconv_isPowerOfTwo : Nat := 79
def n_math_bits_TrailingZeros : Nat := 80
def n_math_bits_TrailingZeros32 : Nat := 81
def n_math_bits_TrailingZeros64 : Nat := 82
def n_runtime_boundsError_Error : Nat := 83
def n_runtime_boundsError_RuntimeError : Nat := 84
def n_runtime_errorString_Error : Nat := 85
def n_runtime_errorString_RuntimeError : Nat := 86
def n_runtime_plainError_Error : Nat := 87
def n_runtime_plainError_RuntimeError : Nat := 88
def n_runtime_errorAddressString_Error : Nat := 89
def n_runtime_errorAddressString_RuntimeError : Nat := 90
def n_runtime_TypeAssertionError_Error : Nat := 91
def n_runtime_TypeAssertionError_RuntimeError : Nat := 92
def n_runtime_PanicNilError_Error : Nat := 93
def n_runtime_PanicNilError_RuntimeError : Nat := 94
def n_internal_abi_Type_Align : Nat := 95
def n_internal_runtime_maps_unhashableTypeError_Error : Nat := 96
def n_internal_runtime_maps_unhashableTypeError_RuntimeError : Nat := 97
def n_s_l1Cur_any1 : Nat := 98
def n_internal_abi_Kind_String : Nat := 99
def n_var_s_door_gosem_cut_vars_holds_initialisers_alone_see_the_manifest_s_row_cutvarsword_look_11_test_files_too : Nat := 100
def n_var_s_door_internal_strconv_uint64pow10_is_laid_by_its_own_initialiser_plain_data_look_11 : Nat := 101
def n_var_s_door_math_bits_deBruijn32tab_is_laid_by_its_own_initialiser_plain_data_look_11 : Nat := 102
def n_var_s_door_math_bits_deBruijn64tab_is_laid_by_its_own_initialiser_plain_data_look_11 : Nat := 103
def n_var_s_door_the_look_of_gosem_cut_vars_went_over_the_folder_that_the_caller_named_as_the_repository_s_root_look_11 : Nat := 104
def n_gosem_cut_vars : Nat := 105
theorem gPow : Tryd.prog.globalNamed "internal/strconv.uint64pow10" = some 1 := by kernel_rfl
/-- Of the package variables: the table of strconv. -/
instance : Abs.GInv where
  holds w D := Lib.TabIs Tryd.prog w "internal/strconv.uint64pow10" .u64 Lib.pow10Tab ∧ D 1
  mono := by
    rintro w w' D D' ⟨h1, h2⟩ hD hh
    refine ⟨?_, hD _ h2⟩
    unfold Lib.TabIs World.var? at h1 ⊢
    rw [gPow] at h1 ⊢
    simp only [Option.bind_some] at h1 ⊢
    rw [hh _ h2]; exact h1
end Go.Proofs.YtgefdcllialhkaaDoor
