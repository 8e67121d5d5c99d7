/- Parts of the proof, merged: Nums, CodeWFnRolls, CodeWPageOf, CodeWPages, CodeSPaged, CodeEntry2, CodeEntry, CodeBase, Base, RollLaw, CodeBlazon2, CodeBlazon, CodeArms, CodeBanner, CodeLib, Lib, Banner, Arms, Blazon, Blazon2, CodeWrap, CodeStrs, Texts, Shelf, Strs, CodeSpecSplit, SpecSplit, MottoLaw. -/
import Derived.Test.YtbeoijlggphklaaGreatDoorProg
import Derived.Test.YtbeoijlggphklaaGreatDoorAbs3
import Derived.KernelRfl
import Derived.Lib.ItoaNum
import Derived.Lib.LaidTab
import Derived.Test.YtbeoijlggphklaaGreatDoorAbs4
import Derived.Shelf.Strings.Builder1
import Derived.Shelf.Strings.Builder2
import Derived.Shelf.Strings.OnBuilder
import Derived.Shelf.Small.Bits
import Derived.Shelf.Small.Strs
import Derived.Shelf.Strings.BuilderF
import Derived.Shelf.Strconv.Itoa0
import Derived.Shelf.Strconv.Itoa1
import Derived.Shelf.LaysM
import Derived.Shelf.Strconv.Itoa2
import Derived.Shelf.Strconv.Itoa3
import Derived.Shelf.Strings.Search1
import Derived.Shelf.Strings.Search2
import Derived.Shelf.Strings.Search3
import Derived.Shelf.Strings.Cut
import Derived.Shelf.Strings.Count
import Derived.Shelf.Strings.Shaped
import Derived.Shelf.Sort.Plain
import Derived.Shelf.Strings.Prefix
import Derived.Shelf.Strings.Split
import Derived.Shelf.Bits.Mul64
import Derived.Shelf.Strings.Repeat
import Derived.Shelf.Unicode.DecodeSlow
import Derived.Shelf.Unicode.DecodeAny
import Derived.Shelf.Slices.Turned
import Derived.Shelf.Slices.Equal
import Derived.Shelf.Slices.In.SortNone
/- The numbers of the functions: written by a program of this claim. -/
namespace Go.Proofs.YtbeoijlggphklaaGreatDoor
def n_w_FnRolls : Nat := 8
def n_i_EntryLines : Nat := 15
def n_i_PageOf : Nat := 28
def n_i_CountLines : Nat := 31
def n_s_RollPages : Nat := 32
def n_i_RollPages : Nat := 33
def n_w_rBig : Nat := 38
def n_s_DrawRollPages : Nat := 39
def n_w_rTexts : Nat := 40
def n_w_rWithin : Nat := 41
def n_s_DrawRollOrder : Nat := 42
def n_i_RollOrder : Nat := 43
def n_s_RollOrder : Nat := 44
def n_w_rInts : Nat := 45
def n_s_l16Good : Nat := 52
def n_s_l1In : Nat := 53
def n_s_l25Lines : Nat := 54
def n_i_IsValidRegister : Nat := 56
def n_i_inside : Nat := 57
def n_i_entry : Nat := 58
def n_s_l1Num : Nat := 63
def n_strconv_Itoa : Nat := 67
def n_s_l25Asked : Nat := 70
def n_i_paged : Nat := 72
def n_i_Register_ordered : Nat := 73
def n_s_l1Cur_anyRegister : Nat := 76
def n_s_l1Cur_roll : Nat := 77
def n_s_l1Cur_among : Nat := 78
def n_s_l1Cur_pick : Nat := 79
def n_s_l25By : Nat := 80
def n_s_l25Order : Nat := 81
def n_s_l1Cur_anyArms : Nat := 88
def n_s_l1Cur_one : Nat := 89
def n_s_l16Grant : Nat := 90
def n_s_l15Conflict : Nat := 91
def n_s_l1Split : Nat := 92
def n_s_l6Text : Nat := 93
def n_i_isName : Nat := 96
def n_i_IsValidArms : Nat := 97
def n_slices_ContainsFunc_i_Grant_i_Grant : Nat := 98
def n_i_IsValidRegister_1 : Nat := 99
def n_i_conflict : Nat := 100
def n_i_wrapped : Nat := 101
def n_i_Arms_text : Nat := 102
def n_s_l25Good : Nat := 106
def n_s_l25Pages : Nat := 107
def n_i_IsValidRoll : Nat := 108
def n_slices_SortStableFunc_i_Grant_i_Grant : Nat := 109
def n_i_Register_ordered_1 : Nat := 110
def n_strings_Compare : Nat := 111
def n_i_Register_ordered_2 : Nat := 112
def n_s_l1Cur_register : Nat := 114
def n_s_l1Cur_of : Nat := 115
def n_s_l1Cur_like : Nat := 116
def n_s_l1Cur_next : Nat := 117
def n_s_l25Before : Nat := 118
def n_s_l1Cur_arms : Nat := 128
def n_s_l1Cur_anyField : Nat := 129
def n_s_l1Cur_anyGroup : Nat := 130
def n_s_l16Name : Nat := 131
def n_s_l5Good : Nat := 132
def n_s_l15Count : Nat := 133
def n_s_l3Text : Nat := 134
def n_s_l6Ordinary : Nat := 135
def n_s_l2Word : Nat := 136
def n_s_l4None : Nat := 137
def n_s_l4Text : Nat := 138
def n_s_l6Join : Nat := 139
def n_i_IsValidField : Nat := 140
def n_i_isGroup : Nat := 141
def n_i_isOrdinary : Nat := 142
def n_slices_IndexFunc_i_Grant_i_Grant : Nat := 143
def n_i_differences : Nat := 144
def n_strings_Split : Nat := 145
def n_i_Arms_pieces : Nat := 146
def n_i_pieces_joined : Nat := 147
def n_slices_stableCmpFunc_i_Grant : Nat := 151
def n_s_l16Conflicts : Nat := 154
def n_s_l1Cur_field : Nat := 155
def n_s_l1Cur_tincture : Nat := 156
def n_s_l1Cur_group : Nat := 157
def n_s_l3Good : Nat := 175
def n_s_l4Group : Nat := 176
def n_s_l3Line : Nat := 177
def n_s_l2Good : Nat := 178
def n_s_l3Differences : Nat := 179
def n_s_l4Differences : Nat := 180
def n_s_l3LineWord : Nat := 181
def n_s_l4Bare : Nat := 182
def n_i_isLine : Nat := 183
def n_i_IsTincture : Nat := 184
def n_i_IsValidGroup : Nat := 185
def n_i_FieldDifferences : Nat := 186
def n_i_groupDifferences : Nat := 187
def n_i_number : Nat := 188
def n_strings_genSplit : Nat := 189
def n_i_Field_text : Nat := 190
def n_i_ordinaryStart : Nat := 191
def n_i_tincture : Nat := 192
def n_i_Group_text : Nat := 193
def n_slices_insertionSortCmpFunc_i_Grant : Nat := 200
def n_slices_symMergeCmpFunc_i_Grant : Nat := 201
def n_s_l4Beast : Nat := 205
def n_s_l4Kind : Nat := 214
def n_s_l1Same : Nat := 215
def n_s_l3Tinctures : Nat := 216
def n_s_l4Word : Nat := 217
def n_s_l4Attitudes : Nat := 218
def n_i_isKind : Nat := 219
def n_i_attitudes : Nat := 220
def n_slices_Equal_int_int : Nat := 221
def n_i_Field_tinctures : Nat := 222
def n_strings_explode : Nat := 223
def n_strings_Count : Nat := 224
def n_strings_Index : Nat := 225
def n_i_withLine : Nat := 226
def n_i_divisionWords : Nat := 227
def n_i_ordinaryWords : Nat := 228
def n_i_tinctureWords : Nat := 229
def n_i_countWord : Nat := 230
def n_i_kindWord : Nat := 231
def n_i_lineWords : Nat := 247
def n_i_kindWords : Nat := 248
theorem gPow : Tryz.prog.globalNamed "internal/strconv.uint64pow10" = some 1 := by kernel_rfl
/-- Of the package variables: the table of strconv. -/
instance : Abs.GInv where
  holds w D := Lib.TabIs Tryz.prog w "internal/strconv.uint64pow10" .u64 Lib.pow10Tab ∧ D 1
  mono := by
    rintro w w' D D' ⟨h1, h2⟩ hD hh
    refine ⟨?_, hD _ h2⟩
    unfold Lib.TabIs World.var? at h1 ⊢
    rw [gPow] at h1 ⊢
    simp only [Option.bind_some] at h1 ⊢
    rw [hh _ h2]; exact h1
end Go.Proofs.YtbeoijlggphklaaGreatDoor

/- The compact code of the functions, and that it is theirs: written by a program of this claim. -/
namespace Go.Proofs.YtbeoijlggphklaaGreatDoor
open Go.Abs
set_option maxRecDepth 100000
def r_w_rWithin_0 : List CO := [⟨none, (some 4), (.mv (.k (.v (.bool false))))⟩]
def r_w_rWithin_1 : List CO := [⟨none, (some 5), (.mv (.k (.v (.int .i64 (0)))))⟩]
def r_w_rWithin_2 : List CO := [⟨none, (some 6), (.mv (.t 5))⟩, ⟨none, (some 7), (.mv (.t 1))⟩, ⟨none, (some 8), (.len false (.t 7))⟩, ⟨none, (some 9), (.bin .add .none (.t 6) (.t 8))⟩, ⟨none, (some 10), (.mv (.t 0))⟩, ⟨none, (some 11), (.len false (.t 10))⟩, ⟨none, (some 12), (.bin .leq .none (.t 9) (.t 11))⟩]
def r_w_rWithin_3 : List CO := [⟨none, (some 15), (.mv (.t 0))⟩, ⟨none, (some 16), (.mv (.t 5))⟩, ⟨none, (some 17), (.mv (.t 5))⟩, ⟨none, (some 18), (.mv (.t 1))⟩, ⟨none, (some 19), (.len false (.t 18))⟩, ⟨none, (some 20), (.bin .add .none (.t 17) (.t 19))⟩, ⟨none, (some 21), (.slc (some 1) (.t 15) (some (.t 16)) (some (.t 20)))⟩, ⟨none, (some 22), (.mv (.t 1))⟩, ⟨none, (some 23), (.call n_w_rTexts [(.t 21), (.t 22)])⟩]
def r_w_rWithin_4 : List CO := [⟨none, (some 4), (.mv (.k (.v (.bool true))))⟩]
def r_w_rWithin_5 : List CO := [⟨none, (some 13), (.mv (.t 5))⟩, ⟨none, (some 14), (.bin .add .none (.t 13) (.k (.v (.int .i64 (1)))))⟩, ⟨none, (some 5), (.mv (.t 14))⟩]
def l_w_rWithin_6 : C := (.seq (.seq (.reg r_w_rWithin_2 [0, 1, 5, 12]) (.cond (.t 12) .skip (.exit 0))) (.seq (.block 1 (.seq (.reg r_w_rWithin_3 [0, 1, 5, 23]) (.cond (.t 23) (.seq (.reg r_w_rWithin_4 [4]) .ret) .skip))) (.reg r_w_rWithin_5 [0, 1, 5])))
def r_w_rWithin_7 : List CO := [⟨none, (some 4), (.mv (.k (.v (.bool false))))⟩]
/-- loop.example/g00884/laws.rWithin -/
def c_w_rWithin : C := (.seq (.reg r_w_rWithin_0 [0, 1]) (.seq (.seq (.reg r_w_rWithin_1 [0, 1, 5]) (.block 0 (.loop l_w_rWithin_6))) (.seq (.reg r_w_rWithin_7 [4]) .ret)))
def k_w_rWithin : Nat → List Nat
  | 0 => [0, 1]
  | 1 => [0, 1, 5]
  | 2 => [0, 1, 5, 12]
  | 4 => [0, 1, 5, 23]
  | 5 => [4]
  | 3 => [0, 1, 5]
  | 6 => [4]
  | _ => []
theorem fn_w_rWithin : FnC Tryz.prog n_w_rWithin c_w_rWithin [(.tmp 4)] 24 :=
  ⟨Tryz.f41, _, k_w_rWithin, Tryz.func41, rfl, by kernel_rfl, by kernel_rfl, by kernel_rfl, rfl⟩
def r_w_FnRolls_0 : List CO := [⟨none, (some 2), (.mv (.k (.v (.bool false))))⟩]
def r_w_FnRolls_1 : List CO := [⟨none, (some 25), (.mv (.t 0))⟩, ⟨none, (some 26), (.call n_w_rBig [(.t 25)])⟩]
def r_w_FnRolls_2 : List CO := [⟨none, (some 2), (.mv (.k (.v (.bool true))))⟩]
def r_w_FnRolls_3 : List CO := [⟨none, (some 28), (.mv (.t 0))⟩, ⟨none, (some 29), (.call n_s_DrawRollPages [(.t 28)])⟩, ⟨none, (some 27), (.mv (.t 29))⟩, ⟨none, (some 30), (.ext (.t 27) 0)⟩, ⟨none, (some 31), (.ext (.t 27) 1)⟩, ⟨none, (some 3), (.box 1 (.k (.agg [(.v (.slice none 0 0))])))⟩, ⟨none, (some 4), (.box 3 (.k (.agg [(.v (.int .i64 (0))), (.v (.int .i64 (0))), (.v (.int .i64 (0)))])))⟩, ⟨none, none, (.st 1 (.t 3) (.t 30))⟩, ⟨none, none, (.st 3 (.t 4) (.t 31))⟩]
def r_w_FnRolls_4 : List CO := [⟨none, (some 33), (.ld true 1 (.t 3))⟩, ⟨none, (some 34), (.ld true 3 (.t 4))⟩, ⟨none, (some 35), (.call n_i_RollPages [(.t 33), (.t 34)])⟩, ⟨none, (some 32), (.mv (.t 35))⟩, ⟨none, (some 36), (.ext (.t 32) 0)⟩, ⟨none, (some 37), (.ext (.t 32) 1)⟩, ⟨none, (some 5), (.mv (.t 36))⟩, ⟨none, (some 6), (.mv (.t 37))⟩]
def r_w_FnRolls_5 : List CO := [⟨none, (some 39), (.ld true 1 (.t 3))⟩, ⟨none, (some 40), (.ld true 3 (.t 4))⟩, ⟨none, (some 41), (.call n_s_RollPages [(.t 39), (.t 40)])⟩, ⟨none, (some 38), (.mv (.t 41))⟩, ⟨none, (some 42), (.ext (.t 38) 0)⟩, ⟨none, (some 43), (.ext (.t 38) 1)⟩, ⟨none, (some 7), (.mv (.t 42))⟩, ⟨none, (some 8), (.mv (.t 43))⟩]
def r_w_FnRolls_6 : List CO := [⟨none, (some 44), (.mv (.t 6))⟩, ⟨none, (some 45), (.mv (.t 8))⟩, ⟨none, (some 46), (.bin .neq .bool (.t 44) (.t 45))⟩, ⟨none, (some 47), (.mv (.t 46))⟩, ⟨(some (47, false)), (some 48), (.mv (.t 5))⟩, ⟨(some (47, false)), (some 49), (.len false (.t 48))⟩, ⟨(some (47, false)), (some 50), (.mv (.t 7))⟩, ⟨(some (47, false)), (some 51), (.len false (.t 50))⟩, ⟨(some (47, false)), (some 52), (.bin .neq .none (.t 49) (.t 51))⟩, ⟨none, (some 53), (.pick (.t 47) (.k (.v (.bool true))) (.t 52))⟩]
def r_w_FnRolls_7 : List CO := [⟨none, (some 2), (.mv (.k (.v (.bool false))))⟩]
def r_w_FnRolls_8 : List CO := [⟨none, (some 9), (.mv (.k (.v (.int .i64 (0)))))⟩]
def r_w_FnRolls_9 : List CO := [⟨none, (some 10), (.mv (.k (.v (.int .i64 (0)))))⟩]
def r_w_FnRolls_10 : List CO := [⟨none, (some 54), (.mv (.t 10))⟩, ⟨none, (some 55), (.mv (.t 5))⟩, ⟨none, (some 56), (.len false (.t 55))⟩, ⟨none, (some 57), (.bin .lss .none (.t 54) (.t 56))⟩]
def r_w_FnRolls_11 : List CO := [⟨none, (some 60), (.mv (.t 5))⟩, ⟨none, (some 61), (.mv (.t 10))⟩, ⟨none, (some 62), (.iaddr 1 (.t 60) (.t 61))⟩, ⟨none, (some 63), (.ld false 1 (.t 62))⟩, ⟨none, (some 64), (.mv (.t 7))⟩, ⟨none, (some 65), (.mv (.t 10))⟩, ⟨none, (some 66), (.iaddr 1 (.t 64) (.t 65))⟩, ⟨none, (some 67), (.ld false 1 (.t 66))⟩, ⟨none, (some 68), (.call n_w_rTexts [(.t 63), (.t 67)])⟩, ⟨none, (some 69), (.un .not (.t 68))⟩, ⟨none, (some 70), (.mv (.t 69))⟩, ⟨(some (70, false)), (some 71), (.mv (.t 5))⟩, ⟨(some (70, false)), (some 72), (.mv (.t 10))⟩, ⟨(some (70, false)), (some 73), (.iaddr 1 (.t 71) (.t 72))⟩, ⟨(some (70, false)), (some 74), (.ld false 1 (.t 73))⟩, ⟨(some (70, false)), (some 75), (.len false (.t 74))⟩, ⟨(some (70, false)), (some 76), (.faddr 2 (.t 4))⟩, ⟨(some (70, false)), (some 77), (.ld false 1 (.t 76))⟩, ⟨(some (70, false)), (some 78), (.bin .gtr .none (.t 75) (.t 77))⟩, ⟨none, (some 79), (.pick (.t 70) (.k (.v (.bool true))) (.t 78))⟩, ⟨none, (some 80), (.mv (.t 79))⟩, ⟨(some (80, false)), (some 81), (.mv (.t 5))⟩, ⟨(some (80, false)), (some 82), (.mv (.t 10))⟩, ⟨(some (80, false)), (some 83), (.iaddr 1 (.t 81) (.t 82))⟩, ⟨(some (80, false)), (some 84), (.ld false 1 (.t 83))⟩, ⟨(some (80, false)), (some 85), (.len false (.t 84))⟩, ⟨(some (80, false)), (some 86), (.bin .eql .none (.t 85) (.k (.v (.int .i64 (0)))))⟩, ⟨none, (some 87), (.pick (.t 80) (.k (.v (.bool true))) (.t 86))⟩]
def p_w_FnRolls_11 : List (List Nat) := [[], [], [0, 1], [0, 1, 2], [], [], [4, 5], [4, 5, 6], [0, 1, 2, 3, 4, 5, 6, 7], [0, 1, 2, 3, 4, 5, 6, 7, 8], [0, 1, 2, 3, 4, 5, 6, 7, 8, 9], [0, 1, 2, 3, 4, 5, 6, 7, 8, 9, 10], [0, 1, 2, 3, 4, 5, 6, 7, 8, 9, 10], [0, 1, 2, 3, 4, 5, 6, 7, 8, 9, 10, 11, 12], [0, 1, 2, 3, 4, 5, 6, 7, 8, 9, 10, 11, 12, 13], [0, 1, 2, 3, 4, 5, 6, 7, 8, 9, 10, 11, 12, 13, 14], [0, 1, 2, 3, 4, 5, 6, 7, 8, 9, 10], [0, 1, 2, 3, 4, 5, 6, 7, 8, 9, 10, 16], [0, 1, 2, 3, 4, 5, 6, 7, 8, 9, 10, 11, 12, 13, 14, 15, 16, 17], [0, 1, 2, 3, 4, 5, 6, 7, 8, 9, 10, 11, 12, 13, 14, 15, 16, 17, 18], [0, 1, 2, 3, 4, 5, 6, 7, 8, 9, 10, 11, 12, 13, 14, 15, 16, 17, 18, 19], [0, 1, 2, 3, 4, 5, 6, 7, 8, 9, 10, 11, 12, 13, 14, 15, 16, 17, 18, 19, 20], [0, 1, 2, 3, 4, 5, 6, 7, 8, 9, 10, 11, 12, 13, 14, 15, 16, 17, 18, 19, 20], [0, 1, 2, 3, 4, 5, 6, 7, 8, 9, 10, 11, 12, 13, 14, 15, 16, 17, 18, 19, 20, 21, 22], [0, 1, 2, 3, 4, 5, 6, 7, 8, 9, 10, 11, 12, 13, 14, 15, 16, 17, 18, 19, 20, 21, 22, 23], [0, 1, 2, 3, 4, 5, 6, 7, 8, 9, 10, 11, 12, 13, 14, 15, 16, 17, 18, 19, 20, 21, 22, 23, 24], [0, 1, 2, 3, 4, 5, 6, 7, 8, 9, 10, 11, 12, 13, 14, 15, 16, 17, 18, 19, 20, 21, 22, 23, 24, 25], [0, 1, 2, 3, 4, 5, 6, 7, 8, 9, 10, 11, 12, 13, 14, 15, 16, 17, 18, 19, 20, 21, 22, 23, 24, 25, 26]]
def r_w_FnRolls_12 : List CO := [⟨none, (some 2), (.mv (.k (.v (.bool false))))⟩]
def r_w_FnRolls_13 : List CO := [⟨none, (some 88), (.mv (.t 9))⟩, ⟨none, (some 89), (.mv (.t 5))⟩, ⟨none, (some 90), (.mv (.t 10))⟩, ⟨none, (some 91), (.iaddr 1 (.t 89) (.t 90))⟩, ⟨none, (some 92), (.ld false 1 (.t 91))⟩, ⟨none, (some 93), (.len false (.t 92))⟩, ⟨none, (some 94), (.bin .add .none (.t 88) (.t 93))⟩, ⟨none, (some 9), (.mv (.t 94))⟩]
def r_w_FnRolls_14 : List CO := [⟨none, (some 58), (.mv (.t 10))⟩, ⟨none, (some 59), (.bin .add .none (.t 58) (.k (.v (.int .i64 (1)))))⟩, ⟨none, (some 10), (.mv (.t 59))⟩]
def l_w_FnRolls_15 : C := (.seq (.seq (.reg r_w_FnRolls_10 [0, 3, 4, 5, 6, 7, 9, 10, 57]) (.cond (.t 57) .skip (.exit 0))) (.seq (.block 1 (.seq (.seq (.regD r_w_FnRolls_11 p_w_FnRolls_11 [0, 3, 4, 5, 6, 7, 9, 10, 87]) (.cond (.t 87) (.seq (.reg r_w_FnRolls_12 [2]) .ret) .skip)) (.reg r_w_FnRolls_13 [0, 3, 4, 5, 6, 7, 9, 10]))) (.reg r_w_FnRolls_14 [0, 3, 4, 5, 6, 7, 9, 10])))
def r_w_FnRolls_16 : List CO := [⟨none, (some 96), (.ld true 1 (.t 3))⟩, ⟨none, (some 97), (.ld true 3 (.t 4))⟩, ⟨none, (some 98), (.call n_i_CountLines [(.t 96), (.t 97)])⟩, ⟨none, (some 95), (.mv (.t 98))⟩, ⟨none, (some 99), (.ext (.t 95) 0)⟩, ⟨none, (some 100), (.ext (.t 95) 1)⟩, ⟨none, (some 101), (.ext (.t 95) 2)⟩, ⟨none, (some 11), (.mv (.t 99))⟩, ⟨none, (some 12), (.mv (.t 100))⟩, ⟨none, (some 13), (.mv (.t 101))⟩]
def r_w_FnRolls_17 : List CO := [⟨none, (some 102), (.mv (.t 13))⟩, ⟨none, (some 103), (.mv (.t 6))⟩, ⟨none, (some 104), (.bin .neq .bool (.t 102) (.t 103))⟩, ⟨none, (some 105), (.mv (.t 104))⟩, ⟨(some (105, false)), (some 106), (.mv (.t 11))⟩, ⟨(some (105, false)), (some 107), (.mv (.t 5))⟩, ⟨(some (105, false)), (some 108), (.len false (.t 107))⟩, ⟨(some (105, false)), (some 109), (.bin .neq .none (.t 106) (.t 108))⟩, ⟨none, (some 110), (.pick (.t 105) (.k (.v (.bool true))) (.t 109))⟩, ⟨none, (some 111), (.mv (.t 110))⟩, ⟨(some (111, false)), (some 112), (.mv (.t 12))⟩, ⟨(some (111, false)), (some 113), (.mv (.t 9))⟩, ⟨(some (111, false)), (some 114), (.bin .neq .none (.t 112) (.t 113))⟩, ⟨none, (some 115), (.pick (.t 111) (.k (.v (.bool true))) (.t 114))⟩]
def r_w_FnRolls_18 : List CO := [⟨none, (some 2), (.mv (.k (.v (.bool false))))⟩]
def r_w_FnRolls_19 : List CO := [⟨none, (some 14), (.mv (.k (.v (.int .i64 (0)))))⟩]
def r_w_FnRolls_20 : List CO := [⟨none, (some 116), (.mv (.t 14))⟩, ⟨none, (some 117), (.faddr 0 (.t 3))⟩, ⟨none, (some 118), (.ld false 1 (.t 117))⟩, ⟨none, (some 119), (.len false (.t 118))⟩, ⟨none, (some 120), (.bin .lss .none (.t 116) (.t 119))⟩, ⟨none, (some 121), (.mv (.t 120))⟩, ⟨(some (121, true)), (some 122), (.mv (.t 6))⟩, ⟨none, (some 123), (.pick (.t 121) (.t 122) (.k (.v (.bool false))))⟩]
def r_w_FnRolls_21 : List CO := [⟨none, (some 127), (.ld true 1 (.t 3))⟩, ⟨none, (some 128), (.ld true 3 (.t 4))⟩, ⟨none, (some 129), (.faddr 0 (.t 3))⟩, ⟨none, (some 130), (.ld false 1 (.t 129))⟩, ⟨none, (some 131), (.mv (.t 14))⟩, ⟨none, (some 132), (.iaddr 18 (.t 130) (.t 131))⟩, ⟨none, (some 133), (.faddr 0 (.t 132))⟩, ⟨none, (some 134), (.ld false 1 (.t 133))⟩, ⟨none, (some 135), (.call n_i_PageOf [(.t 127), (.t 128), (.t 134)])⟩, ⟨none, (some 126), (.mv (.t 135))⟩, ⟨none, (some 136), (.ext (.t 126) 0)⟩, ⟨none, (some 137), (.ext (.t 126) 1)⟩, ⟨none, (some 15), (.mv (.t 136))⟩, ⟨none, (some 16), (.mv (.t 137))⟩]
def p_w_FnRolls_21 : List (List Nat) := [[], [], [], [2], [], [2, 3, 4], [2, 3, 4, 5], [2, 3, 4, 5, 6], [0, 1, 2, 3, 4, 5, 6, 7], [0, 1, 2, 3, 4, 5, 6, 7, 8], [0, 1, 2, 3, 4, 5, 6, 7, 8, 9], [0, 1, 2, 3, 4, 5, 6, 7, 8, 9], [0, 1, 2, 3, 4, 5, 6, 7, 8, 9, 10], [0, 1, 2, 3, 4, 5, 6, 7, 8, 9, 10, 11, 12]]
def r_w_FnRolls_22 : List CO := [⟨none, (some 139), (.faddr 0 (.t 3))⟩, ⟨none, (some 140), (.ld false 1 (.t 139))⟩, ⟨none, (some 141), (.mv (.t 14))⟩, ⟨none, (some 142), (.iaddr 18 (.t 140) (.t 141))⟩, ⟨none, (some 143), (.ld true 18 (.t 142))⟩, ⟨none, (some 144), (.faddr 1 (.t 4))⟩, ⟨none, (some 145), (.ld false 1 (.t 144))⟩, ⟨none, (some 146), (.call n_i_EntryLines [(.t 143), (.t 145)])⟩, ⟨none, (some 138), (.mv (.t 146))⟩, ⟨none, (some 147), (.ext (.t 138) 0)⟩, ⟨none, (some 148), (.ext (.t 138) 1)⟩, ⟨none, (some 17), (.mv (.t 147))⟩, ⟨none, (some 18), (.mv (.t 148))⟩]
def p_w_FnRolls_22 : List (List Nat) := [[], [0], [], [0, 1, 2], [0, 1, 2, 3], [], [5], [0, 1, 2, 3, 4, 5, 6], [0, 1, 2, 3, 4, 5, 6, 7], [0, 1, 2, 3, 4, 5, 6, 7, 8], [0, 1, 2, 3, 4, 5, 6, 7, 8], [0, 1, 2, 3, 4, 5, 6, 7, 8, 9], [0, 1, 2, 3, 4, 5, 6, 7, 8, 9, 10, 11]]
def r_w_FnRolls_23 : List CO := [⟨none, (some 149), (.mv (.t 16))⟩, ⟨none, (some 150), (.un .not (.t 149))⟩, ⟨none, (some 151), (.mv (.t 150))⟩, ⟨(some (151, false)), (some 152), (.mv (.t 18))⟩, ⟨(some (151, false)), (some 153), (.un .not (.t 152))⟩, ⟨none, (some 154), (.pick (.t 151) (.k (.v (.bool true))) (.t 153))⟩, ⟨none, (some 155), (.mv (.t 154))⟩, ⟨(some (155, false)), (some 156), (.mv (.t 15))⟩, ⟨(some (155, false)), (some 157), (.bin .lss .none (.t 156) (.k (.v (.int .i64 (1)))))⟩, ⟨none, (some 158), (.pick (.t 155) (.k (.v (.bool true))) (.t 157))⟩, ⟨none, (some 159), (.mv (.t 158))⟩, ⟨(some (159, false)), (some 160), (.mv (.t 15))⟩, ⟨(some (159, false)), (some 161), (.mv (.t 5))⟩, ⟨(some (159, false)), (some 162), (.len false (.t 161))⟩, ⟨(some (159, false)), (some 163), (.bin .gtr .none (.t 160) (.t 162))⟩, ⟨none, (some 164), (.pick (.t 159) (.k (.v (.bool true))) (.t 163))⟩, ⟨none, (some 165), (.mv (.t 164))⟩, ⟨(some (165, false)), (some 166), (.mv (.t 5))⟩, ⟨(some (165, false)), (some 167), (.mv (.t 15))⟩, ⟨(some (165, false)), (some 168), (.bin .sub .none (.t 167) (.k (.v (.int .i64 (1)))))⟩, ⟨(some (165, false)), (some 169), (.iaddr 1 (.t 166) (.t 168))⟩, ⟨(some (165, false)), (some 170), (.ld false 1 (.t 169))⟩, ⟨(some (165, false)), (some 171), (.mv (.t 17))⟩, ⟨(some (165, false)), (some 172), (.call n_w_rWithin [(.t 170), (.t 171)])⟩, ⟨(some (165, false)), (some 173), (.un .not (.t 172))⟩, ⟨none, (some 174), (.pick (.t 165) (.k (.v (.bool true))) (.t 173))⟩]
def r_w_FnRolls_24 : List CO := [⟨none, (some 2), (.mv (.k (.v (.bool false))))⟩]
def r_w_FnRolls_25 : List CO := [⟨none, (some 124), (.mv (.t 14))⟩, ⟨none, (some 125), (.bin .add .none (.t 124) (.k (.v (.int .i64 (1)))))⟩, ⟨none, (some 14), (.mv (.t 125))⟩]
def l_w_FnRolls_26 : C := (.seq (.seq (.reg r_w_FnRolls_20 [0, 3, 4, 5, 6, 14, 123]) (.cond (.t 123) .skip (.exit 2))) (.seq (.block 3 (.seq (.regD r_w_FnRolls_21 p_w_FnRolls_21 [0, 3, 4, 5, 6, 14, 15, 16]) (.seq (.regD r_w_FnRolls_22 p_w_FnRolls_22 [0, 3, 4, 5, 6, 14, 15, 16, 17, 18]) (.seq (.reg r_w_FnRolls_23 [0, 3, 4, 5, 6, 14, 174]) (.cond (.t 174) (.seq (.reg r_w_FnRolls_24 [2]) .ret) .skip))))) (.reg r_w_FnRolls_25 [0, 3, 4, 5, 6, 14])))
def r_w_FnRolls_27 : List CO := [⟨none, (some 176), (.mv (.t 0))⟩, ⟨none, (some 177), (.call n_s_DrawRollOrder [(.t 176)])⟩, ⟨none, (some 175), (.mv (.t 177))⟩, ⟨none, (some 178), (.ext (.t 175) 0)⟩, ⟨none, (some 179), (.ext (.t 175) 1)⟩, ⟨none, (some 19), (.box 1 (.k (.agg [(.v (.slice none 0 0))])))⟩, ⟨none, none, (.st 1 (.t 19) (.t 178))⟩, ⟨none, (some 20), (.mv (.t 179))⟩]
def r_w_FnRolls_28 : List CO := [⟨none, (some 181), (.ld true 1 (.t 19))⟩, ⟨none, (some 182), (.mv (.t 20))⟩, ⟨none, (some 183), (.call n_i_RollOrder [(.t 181), (.t 182)])⟩, ⟨none, (some 180), (.mv (.t 183))⟩, ⟨none, (some 184), (.ext (.t 180) 0)⟩, ⟨none, (some 185), (.ext (.t 180) 1)⟩, ⟨none, (some 21), (.mv (.t 184))⟩, ⟨none, (some 22), (.mv (.t 185))⟩]
def r_w_FnRolls_29 : List CO := [⟨none, (some 187), (.ld true 1 (.t 19))⟩, ⟨none, (some 188), (.mv (.t 20))⟩, ⟨none, (some 189), (.call n_s_RollOrder [(.t 187), (.t 188)])⟩, ⟨none, (some 186), (.mv (.t 189))⟩, ⟨none, (some 190), (.ext (.t 186) 0)⟩, ⟨none, (some 191), (.ext (.t 186) 1)⟩, ⟨none, (some 23), (.mv (.t 190))⟩, ⟨none, (some 24), (.mv (.t 191))⟩]
def r_w_FnRolls_30 : List CO := [⟨none, (some 192), (.mv (.t 22))⟩, ⟨none, (some 193), (.mv (.t 24))⟩, ⟨none, (some 194), (.bin .eql .bool (.t 192) (.t 193))⟩, ⟨none, (some 195), (.mv (.t 194))⟩, ⟨(some (195, true)), (some 196), (.mv (.t 21))⟩, ⟨(some (195, true)), (some 197), (.mv (.t 23))⟩, ⟨(some (195, true)), (some 198), (.call n_w_rInts [(.t 196), (.t 197)])⟩, ⟨none, (some 199), (.pick (.t 195) (.t 198) (.k (.v (.bool false))))⟩, ⟨none, (some 200), (.mv (.t 199))⟩, ⟨(some (200, true)), (some 201), (.mv (.t 22))⟩, ⟨(some (200, true)), (some 202), (.un .not (.t 201))⟩, ⟨(some (200, true)), (some 203), (.mv (.t 202))⟩, ⟨(some (203, false)), (some 204), (.mv (.t 21))⟩, ⟨(some (203, false)), (some 205), (.len false (.t 204))⟩, ⟨(some (203, false)), (some 206), (.faddr 0 (.t 19))⟩, ⟨(some (203, false)), (some 207), (.ld false 1 (.t 206))⟩, ⟨(some (203, false)), (some 208), (.len false (.t 207))⟩, ⟨(some (203, false)), (some 209), (.bin .eql .none (.t 205) (.t 208))⟩, ⟨(some (200, true)), (some 210), (.pick (.t 203) (.k (.v (.bool true))) (.t 209))⟩, ⟨none, (some 211), (.pick (.t 200) (.t 210) (.k (.v (.bool false))))⟩, ⟨none, (some 2), (.mv (.t 211))⟩]
/-- loop.example/g00884/laws.FnRolls -/
def c_w_FnRolls : C := (.seq (.reg r_w_FnRolls_0 [0]) (.seq (.seq (.reg r_w_FnRolls_1 [0, 26]) (.cond (.t 26) (.seq (.reg r_w_FnRolls_2 [2]) .ret) .skip)) (.seq (.reg r_w_FnRolls_3 [0, 3, 4]) (.seq (.reg r_w_FnRolls_4 [0, 3, 4, 5, 6]) (.seq (.reg r_w_FnRolls_5 [0, 3, 4, 5, 6, 7, 8]) (.seq (.seq (.reg r_w_FnRolls_6 [0, 3, 4, 5, 6, 7, 53]) (.cond (.t 53) (.seq (.reg r_w_FnRolls_7 [2]) .ret) .skip)) (.seq (.reg r_w_FnRolls_8 [0, 3, 4, 5, 6, 7, 9]) (.seq (.seq (.reg r_w_FnRolls_9 [0, 3, 4, 5, 6, 7, 9, 10]) (.block 0 (.loop l_w_FnRolls_15))) (.seq (.reg r_w_FnRolls_16 [0, 3, 4, 5, 6, 9, 11, 12, 13]) (.seq (.seq (.reg r_w_FnRolls_17 [0, 3, 4, 5, 6, 115]) (.cond (.t 115) (.seq (.reg r_w_FnRolls_18 [2]) .ret) .skip)) (.seq (.seq (.reg r_w_FnRolls_19 [0, 3, 4, 5, 6, 14]) (.block 2 (.loop l_w_FnRolls_26))) (.seq (.reg r_w_FnRolls_27 [19, 20]) (.seq (.reg r_w_FnRolls_28 [19, 20, 21, 22]) (.seq (.reg r_w_FnRolls_29 [19, 21, 22, 23, 24]) (.seq (.reg r_w_FnRolls_30 [2]) .ret)))))))))))))))
def k_w_FnRolls : Nat → List Nat
  | 0 => [0]
  | 1 => [0, 26]
  | 2 => [2]
  | 3 => [0, 3, 4]
  | 4 => [0, 3, 4, 5, 6]
  | 5 => [0, 3, 4, 5, 6, 7, 8]
  | 6 => [0, 3, 4, 5, 6, 7, 53]
  | 7 => [2]
  | 8 => [0, 3, 4, 5, 6, 7, 9]
  | 9 => [0, 3, 4, 5, 6, 7, 9, 10]
  | 10 => [0, 3, 4, 5, 6, 7, 9, 10, 57]
  | 12 => [0, 3, 4, 5, 6, 7, 9, 10, 87]
  | 13 => [2]
  | 14 => [0, 3, 4, 5, 6, 7, 9, 10]
  | 11 => [0, 3, 4, 5, 6, 7, 9, 10]
  | 15 => [0, 3, 4, 5, 6, 9, 11, 12, 13]
  | 16 => [0, 3, 4, 5, 6, 115]
  | 17 => [2]
  | 18 => [0, 3, 4, 5, 6, 14]
  | 19 => [0, 3, 4, 5, 6, 14, 123]
  | 21 => [0, 3, 4, 5, 6, 14, 15, 16]
  | 22 => [0, 3, 4, 5, 6, 14, 15, 16, 17, 18]
  | 23 => [0, 3, 4, 5, 6, 14, 174]
  | 24 => [2]
  | 20 => [0, 3, 4, 5, 6, 14]
  | 25 => [19, 20]
  | 26 => [19, 20, 21, 22]
  | 27 => [19, 21, 22, 23, 24]
  | 28 => [2]
  | _ => []
theorem fn_w_FnRolls : FnC Tryz.prog n_w_FnRolls c_w_FnRolls [(.tmp 2)] 212 :=
  ⟨Tryz.f8, _, k_w_FnRolls, Tryz.func8, rfl, by kernel_rfl, by kernel_rfl, by kernel_rfl, rfl⟩
end Go.Proofs.YtbeoijlggphklaaGreatDoor

/- The compact code of the functions, and that it is theirs: written by a program of this claim. -/
namespace Go.Proofs.YtbeoijlggphklaaGreatDoor
open Go.Abs
set_option maxRecDepth 100000
def r_i_PageOf_0 : List CO := [⟨none, (some 3), (.box 1 (.t 0))⟩, ⟨none, (some 4), (.box 3 (.t 1))⟩, ⟨none, (some 6), (.mv (.k (.v (.int .i64 (0)))))⟩, ⟨none, (some 7), (.mv (.k (.v (.bool false))))⟩]
def r_i_PageOf_1 : List CO := [⟨none, (some 14), (.ld true 1 (.t 3))⟩, ⟨none, (some 15), (.ld true 3 (.t 4))⟩, ⟨none, (some 16), (.call n_i_paged [(.t 14), (.t 15)])⟩, ⟨none, (some 13), (.mv (.t 16))⟩, ⟨none, (some 17), (.ext (.t 13) 0)⟩, ⟨none, (some 18), (.ext (.t 13) 1)⟩, ⟨none, (some 19), (.ext (.t 13) 2)⟩, ⟨none, (some 8), (.mv (.t 17))⟩, ⟨none, (some 9), (.mv (.t 18))⟩, ⟨none, (some 10), (.mv (.t 19))⟩]
def r_i_PageOf_2 : List CO := [⟨none, (some 20), (.mv (.t 10))⟩, ⟨none, (some 21), (.un .not (.t 20))⟩]
def r_i_PageOf_3 : List CO := [⟨none, (some 6), (.mv (.k (.v (.int .i64 (0)))))⟩, ⟨none, (some 7), (.mv (.k (.v (.bool false))))⟩]
def r_i_PageOf_4 : List CO := [⟨none, (some 22), (.ld true 1 (.t 3))⟩, ⟨none, (some 23), (.faddr 0 (.t 4))⟩, ⟨none, (some 24), (.ld false 1 (.t 23))⟩, ⟨none, (some 25), (.call n_i_Register_ordered [(.t 22), (.t 24)])⟩, ⟨none, (some 26), (.len false (.t 25))⟩, ⟨none, (some 27), (.mv (.k (.v (.int .i64 (0)))))⟩]
def r_i_PageOf_5 : List CO := [⟨none, (some 28), (.bin .lss .none (.t 27) (.t 26))⟩]
def r_i_PageOf_6 : List CO := [⟨none, (some 29), (.mv (.t 27))⟩, ⟨none, (some 30), (.iaddr 18 (.t 25) (.t 27))⟩, ⟨none, (some 31), (.ld true 18 (.t 30))⟩, ⟨none, (some 12), (.box 18 (.k (.agg [(.v (.int .i64 (0))), (.v (.string (bs []))), (.v (.int .i64 (0))), (.v (.int .i64 (0))), (.v (.int .i64 (0))), (.v (.int .i64 (0))), (.v (.int .i64 (0))), (.v (.int .i64 (0))), (.v (.int .i64 (0))), (.v (.int .i64 (0))), (.v (.int .i64 (0))), (.v (.int .i64 (0))), (.v (.int .i64 (0))), (.v (.int .i64 (0))), (.v (.int .i64 (0))), (.v (.int .i64 (0))), (.v (.int .i64 (0))), (.v (.int .i64 (0)))])))⟩, ⟨none, (some 11), (.mv (.t 29))⟩, ⟨none, none, (.st 18 (.t 12) (.t 31))⟩]
def r_i_PageOf_7 : List CO := [⟨none, (some 32), (.faddr 0 (.t 12))⟩, ⟨none, (some 33), (.ld false 1 (.t 32))⟩, ⟨none, (some 34), (.mv (.t 2))⟩, ⟨none, (some 35), (.bin .eql .none (.t 33) (.t 34))⟩]
def r_i_PageOf_8 : List CO := [⟨none, (some 36), (.mv (.t 9))⟩, ⟨none, (some 37), (.mv (.t 11))⟩, ⟨none, (some 38), (.iaddr 1 (.t 36) (.t 37))⟩, ⟨none, (some 39), (.ld false 1 (.t 38))⟩, ⟨none, (some 6), (.mv (.t 39))⟩, ⟨none, (some 7), (.mv (.k (.v (.bool true))))⟩]
def r_i_PageOf_9 : List CO := [⟨none, (some 40), (.bin .add .none (.t 27) (.k (.v (.int .i64 (1)))))⟩, ⟨none, (some 27), (.mv (.t 40))⟩]
def l_i_PageOf_10 : C := (.seq (.reg r_i_PageOf_5 [2, 9, 25, 26, 27, 28]) (.seq (.cond (.t 28) .skip (.exit 0)) (.seq (.block 1 (.seq (.reg r_i_PageOf_6 [2, 9, 11, 12, 25, 26, 27]) (.seq (.reg r_i_PageOf_7 [2, 9, 11, 25, 26, 27, 35]) (.cond (.t 35) (.seq (.reg r_i_PageOf_8 [6, 7]) .ret) .skip)))) (.reg r_i_PageOf_9 [2, 9, 25, 26, 27]))))
def r_i_PageOf_11 : List CO := [⟨none, (some 6), (.mv (.k (.v (.int .i64 (0)))))⟩, ⟨none, (some 7), (.mv (.k (.v (.bool false))))⟩]
/-- loop.example/g00884/impl.PageOf -/
def c_i_PageOf : C := (.seq (.reg r_i_PageOf_0 [2, 3, 4]) (.seq (.reg r_i_PageOf_1 [2, 3, 4, 9, 10]) (.seq (.seq (.reg r_i_PageOf_2 [2, 3, 4, 9, 21]) (.cond (.t 21) (.seq (.reg r_i_PageOf_3 [6, 7]) .ret) .skip)) (.seq (.seq (.reg r_i_PageOf_4 [2, 9, 25, 26, 27]) (.block 0 (.loop l_i_PageOf_10))) (.seq (.reg r_i_PageOf_11 [6, 7]) .ret)))))
def k_i_PageOf : Nat → List Nat
  | 0 => [2, 3, 4]
  | 1 => [2, 3, 4, 9, 10]
  | 2 => [2, 3, 4, 9, 21]
  | 3 => [6, 7]
  | 4 => [2, 9, 25, 26, 27]
  | 5 => [2, 9, 25, 26, 27, 28]
  | 6 => [2, 9, 11, 12, 25, 26, 27]
  | 7 => [2, 9, 11, 25, 26, 27, 35]
  | 8 => [6, 7]
  | 9 => [2, 9, 25, 26, 27]
  | 10 => [6, 7]
  | _ => []
theorem fn_i_PageOf : FnC Tryz.prog n_i_PageOf c_i_PageOf [(.tmp 6), (.tmp 7)] 41 :=
  ⟨Tryz.f28, _, k_i_PageOf, Tryz.func28, rfl, by kernel_rfl, by kernel_rfl, by kernel_rfl, rfl⟩
end Go.Proofs.YtbeoijlggphklaaGreatDoor

/- The compact code of the functions, and that it is theirs: written by a program of this claim. -/
namespace Go.Proofs.YtbeoijlggphklaaGreatDoor
open Go.Abs
set_option maxRecDepth 100000
def r_i_RollPages_0 : List CO := [⟨none, (some 2), (.box 1 (.t 0))⟩, ⟨none, (some 3), (.box 3 (.t 1))⟩, ⟨none, (some 4), (.mv (.k (.v (.slice none 0 0))))⟩, ⟨none, (some 5), (.mv (.k (.v (.bool false))))⟩]
def r_i_RollPages_1 : List CO := [⟨none, (some 10), (.ld true 1 (.t 2))⟩, ⟨none, (some 11), (.ld true 3 (.t 3))⟩, ⟨none, (some 12), (.call n_i_paged [(.t 10), (.t 11)])⟩, ⟨none, (some 9), (.mv (.t 12))⟩, ⟨none, (some 13), (.ext (.t 9) 0)⟩, ⟨none, (some 14), (.ext (.t 9) 1)⟩, ⟨none, (some 15), (.ext (.t 9) 2)⟩, ⟨none, (some 6), (.mv (.t 13))⟩, ⟨none, (some 7), (.mv (.t 14))⟩, ⟨none, (some 8), (.mv (.t 15))⟩]
def r_i_RollPages_2 : List CO := [⟨none, (some 16), (.mv (.t 6))⟩, ⟨none, (some 17), (.mv (.t 8))⟩, ⟨none, (some 4), (.mv (.t 16))⟩, ⟨none, (some 5), (.mv (.t 17))⟩]
/-- loop.example/g00884/impl.RollPages -/
def c_i_RollPages : C := (.seq (.reg r_i_RollPages_0 [2, 3]) (.seq (.reg r_i_RollPages_1 [6, 8]) (.seq (.reg r_i_RollPages_2 [4, 5]) .ret)))
def k_i_RollPages : Nat → List Nat
  | 0 => [2, 3]
  | 1 => [6, 8]
  | 2 => [4, 5]
  | _ => []
theorem fn_i_RollPages : FnC Tryz.prog n_i_RollPages c_i_RollPages [(.tmp 4), (.tmp 5)] 18 :=
  ⟨Tryz.f33, _, k_i_RollPages, Tryz.func33, rfl, by kernel_rfl, by kernel_rfl, by kernel_rfl, rfl⟩
def r_s_RollPages_0 : List CO := [⟨none, (some 2), (.box 1 (.t 0))⟩, ⟨none, (some 3), (.box 3 (.t 1))⟩, ⟨none, (some 4), (.mv (.k (.v (.slice none 0 0))))⟩, ⟨none, (some 5), (.mv (.k (.v (.bool false))))⟩]
def r_s_RollPages_1 : List CO := [⟨none, (some 12), (.bslice 1 (.v (.slice none 0 0)) 0 [])⟩, ⟨none, (some 6), (.mv (.t 12))⟩]
def r_s_RollPages_2 : List CO := [⟨none, (some 14), (.ld true 1 (.t 2))⟩, ⟨none, (some 15), (.ld true 3 (.t 3))⟩, ⟨none, (some 16), (.call n_s_l25Asked [(.t 14), (.t 15)])⟩, ⟨none, (some 13), (.mv (.t 16))⟩, ⟨none, (some 17), (.ext (.t 13) 0)⟩, ⟨none, (some 18), (.ext (.t 13) 1)⟩, ⟨none, (some 7), (.mv (.t 17))⟩, ⟨none, (some 8), (.mv (.t 18))⟩]
def r_s_RollPages_3 : List CO := [⟨none, (some 19), (.mv (.t 8))⟩, ⟨none, (some 20), (.un .not (.t 19))⟩]
def r_s_RollPages_4 : List CO := [⟨none, (some 21), (.mv (.t 6))⟩, ⟨none, (some 4), (.mv (.t 21))⟩, ⟨none, (some 5), (.mv (.k (.v (.bool false))))⟩]
def r_s_RollPages_5 : List CO := [⟨none, (some 9), (.mv (.k (.v (.int .i64 (0)))))⟩]
def r_s_RollPages_6 : List CO := [⟨none, (some 22), (.mv (.t 9))⟩, ⟨none, (some 23), (.mv (.t 7))⟩, ⟨none, (some 24), (.len false (.t 23))⟩, ⟨none, (some 25), (.bin .lss .none (.t 22) (.t 24))⟩]
def r_s_RollPages_7 : List CO := [⟨none, (some 28), (.bslice 1 (.v (.string (bs []))) 0 [])⟩, ⟨none, (some 10), (.mv (.t 28))⟩]
def r_s_RollPages_8 : List CO := [⟨none, (some 11), (.mv (.k (.v (.int .i64 (0)))))⟩]
def r_s_RollPages_9 : List CO := [⟨none, (some 29), (.mv (.t 11))⟩, ⟨none, (some 30), (.mv (.t 7))⟩, ⟨none, (some 31), (.mv (.t 9))⟩, ⟨none, (some 32), (.iaddr 1 (.t 30) (.t 31))⟩, ⟨none, (some 33), (.ld false 1 (.t 32))⟩, ⟨none, (some 34), (.len false (.t 33))⟩, ⟨none, (some 35), (.bin .lss .none (.t 29) (.t 34))⟩]
def r_s_RollPages_10 : List CO := [⟨none, (some 38), (.mv (.t 10))⟩, ⟨none, (some 39), (.faddr 0 (.t 2))⟩, ⟨none, (some 40), (.ld false 1 (.t 39))⟩, ⟨none, (some 41), (.mv (.t 7))⟩, ⟨none, (some 42), (.mv (.t 9))⟩, ⟨none, (some 43), (.iaddr 1 (.t 41) (.t 42))⟩, ⟨none, (some 44), (.ld false 1 (.t 43))⟩, ⟨none, (some 45), (.mv (.t 11))⟩, ⟨none, (some 46), (.iaddr 1 (.t 44) (.t 45))⟩, ⟨none, (some 47), (.ld false 1 (.t 46))⟩, ⟨none, (some 48), (.iaddr 18 (.t 40) (.t 47))⟩, ⟨none, (some 49), (.ld true 18 (.t 48))⟩, ⟨none, (some 50), (.faddr 1 (.t 3))⟩, ⟨none, (some 51), (.ld false 1 (.t 50))⟩, ⟨none, (some 52), (.call n_s_l25Lines [(.t 49), (.t 51)])⟩, ⟨none, (some 53), (.app 1 16 (.t 38) (.t 52))⟩, ⟨none, (some 10), (.mv (.t 53))⟩]
def p_s_RollPages_10 : List (List Nat) := [[], [], [1], [], [], [3, 4], [3, 4, 5], [], [3, 4, 5, 6, 7], [3, 4, 5, 6, 7, 8], [1, 2, 3, 4, 5, 6, 7, 8, 9], [1, 2, 3, 4, 5, 6, 7, 8, 9, 10], [], [12], [1, 2, 3, 4, 5, 6, 7, 8, 9, 10, 11, 12, 13], [0, 1, 2, 3, 4, 5, 6, 7, 8, 9, 10, 11, 12, 13, 14], [0, 1, 2, 3, 4, 5, 6, 7, 8, 9, 10, 11, 12, 13, 14, 15]]
def r_s_RollPages_11 : List CO := [⟨none, (some 36), (.mv (.t 11))⟩, ⟨none, (some 37), (.bin .add .none (.t 36) (.k (.v (.int .i64 (1)))))⟩, ⟨none, (some 11), (.mv (.t 37))⟩]
def l_s_RollPages_12 : C := (.seq (.seq (.reg r_s_RollPages_9 [2, 3, 6, 7, 9, 10, 11, 35]) (.cond (.t 35) .skip (.exit 2))) (.seq (.block 3 (.regD r_s_RollPages_10 p_s_RollPages_10 [2, 3, 6, 7, 9, 10, 11])) (.reg r_s_RollPages_11 [2, 3, 6, 7, 9, 10, 11])))
def r_s_RollPages_13 : List CO := [⟨none, (some 54), (.mv (.t 6))⟩, ⟨none, (some 55), (.mv (.t 10))⟩, ⟨none, (some 56), (.bslice 1 (.v (.slice none 0 0)) 1 [(0, (.t 55))])⟩, ⟨none, (some 57), (.app 1 24 (.t 54) (.t 56))⟩, ⟨none, (some 6), (.mv (.t 57))⟩]
def r_s_RollPages_14 : List CO := [⟨none, (some 26), (.mv (.t 9))⟩, ⟨none, (some 27), (.bin .add .none (.t 26) (.k (.v (.int .i64 (1)))))⟩, ⟨none, (some 9), (.mv (.t 27))⟩]
def l_s_RollPages_15 : C := (.seq (.seq (.reg r_s_RollPages_6 [2, 3, 6, 7, 9, 25]) (.cond (.t 25) .skip (.exit 0))) (.seq (.block 1 (.seq (.reg r_s_RollPages_7 [2, 3, 6, 7, 9, 10]) (.seq (.seq (.reg r_s_RollPages_8 [2, 3, 6, 7, 9, 10, 11]) (.block 2 (.loop l_s_RollPages_12))) (.reg r_s_RollPages_13 [2, 3, 6, 7, 9])))) (.reg r_s_RollPages_14 [2, 3, 6, 7, 9])))
def r_s_RollPages_16 : List CO := [⟨none, (some 58), (.mv (.t 6))⟩, ⟨none, (some 4), (.mv (.t 58))⟩, ⟨none, (some 5), (.mv (.k (.v (.bool true))))⟩]
/-- loop.example/g00884/spec.RollPages -/
def c_s_RollPages : C := (.seq (.reg r_s_RollPages_0 [2, 3]) (.seq (.reg r_s_RollPages_1 [2, 3, 6]) (.seq (.reg r_s_RollPages_2 [2, 3, 6, 7, 8]) (.seq (.seq (.reg r_s_RollPages_3 [2, 3, 6, 7, 20]) (.cond (.t 20) (.seq (.reg r_s_RollPages_4 [4, 5]) .ret) .skip)) (.seq (.seq (.reg r_s_RollPages_5 [2, 3, 6, 7, 9]) (.block 0 (.loop l_s_RollPages_15))) (.seq (.reg r_s_RollPages_16 [4, 5]) .ret))))))
def k_s_RollPages : Nat → List Nat
  | 0 => [2, 3]
  | 1 => [2, 3, 6]
  | 2 => [2, 3, 6, 7, 8]
  | 3 => [2, 3, 6, 7, 20]
  | 4 => [4, 5]
  | 5 => [2, 3, 6, 7, 9]
  | 6 => [2, 3, 6, 7, 9, 25]
  | 8 => [2, 3, 6, 7, 9, 10]
  | 9 => [2, 3, 6, 7, 9, 10, 11]
  | 10 => [2, 3, 6, 7, 9, 10, 11, 35]
  | 12 => [2, 3, 6, 7, 9, 10, 11]
  | 11 => [2, 3, 6, 7, 9, 10, 11]
  | 13 => [2, 3, 6, 7, 9]
  | 7 => [2, 3, 6, 7, 9]
  | 14 => [4, 5]
  | _ => []
theorem fn_s_RollPages : FnC Tryz.prog n_s_RollPages c_s_RollPages [(.tmp 4), (.tmp 5)] 59 :=
  ⟨Tryz.f32, _, k_s_RollPages, Tryz.func32, rfl, by kernel_rfl, by kernel_rfl, by kernel_rfl, rfl⟩
end Go.Proofs.YtbeoijlggphklaaGreatDoor

/- The compact code of the functions, and that it is theirs: written by a program of this claim. -/
namespace Go.Proofs.YtbeoijlggphklaaGreatDoor
open Go.Abs
set_option maxRecDepth 100000
def r_s_l25Good_0 : List CO := [⟨none, (some 1), (.box 3 (.t 0))⟩, ⟨none, (some 2), (.mv (.k (.v (.bool false))))⟩]
def r_s_l25Good_1 : List CO := [⟨none, (some 3), (.faddr 0 (.t 1))⟩, ⟨none, (some 4), (.ld false 1 (.t 3))⟩, ⟨none, (some 5), (.call n_s_l25By [(.t 4)])⟩, ⟨none, (some 6), (.mv (.t 5))⟩, ⟨(some (6, true)), (some 7), (.faddr 1 (.t 1))⟩, ⟨(some (6, true)), (some 8), (.ld false 1 (.t 7))⟩, ⟨(some (6, true)), (some 9), (.call n_s_l1In [(.t 8), (.k (.v (.int .i64 (20)))), (.k (.v (.int .i64 (60))))])⟩, ⟨none, (some 10), (.pick (.t 6) (.t 9) (.k (.v (.bool false))))⟩, ⟨none, (some 11), (.mv (.t 10))⟩, ⟨(some (11, true)), (some 12), (.faddr 2 (.t 1))⟩, ⟨(some (11, true)), (some 13), (.ld false 1 (.t 12))⟩, ⟨(some (11, true)), (some 14), (.call n_s_l1In [(.t 13), (.k (.v (.int .i64 (4)))), (.k (.v (.int .i64 (20))))])⟩, ⟨none, (some 15), (.pick (.t 11) (.t 14) (.k (.v (.bool false))))⟩, ⟨none, (some 2), (.mv (.t 15))⟩]
/-- loop.example/g00884/spec.l25Good -/
def c_s_l25Good : C := (.seq (.reg r_s_l25Good_0 [1]) (.seq (.reg r_s_l25Good_1 [2]) .ret))
def k_s_l25Good : Nat → List Nat
  | 0 => [1]
  | 1 => [2]
  | _ => []
theorem fn_s_l25Good : FnC Tryz.prog n_s_l25Good c_s_l25Good [(.tmp 2)] 16 :=
  ⟨Tryz.f106, _, k_s_l25Good, Tryz.func106, rfl, by kernel_rfl, by kernel_rfl, by kernel_rfl, rfl⟩
def r_s_l25Pages_0 : List CO := [⟨none, (some 2), (.box 1 (.t 0))⟩, ⟨none, (some 3), (.box 3 (.t 1))⟩, ⟨none, (some 4), (.mv (.k (.v (.slice none 0 0))))⟩, ⟨none, (some 5), (.mv (.k (.v (.bool false))))⟩]
def r_s_l25Pages_1 : List CO := [⟨none, (some 12), (.bslice 1 (.v (.slice none 0 0)) 0 [])⟩, ⟨none, (some 6), (.mv (.t 12))⟩]
def r_s_l25Pages_2 : List CO := [⟨none, (some 7), (.mv (.k (.v (.int .i64 (0)))))⟩]
def r_s_l25Pages_3 : List CO := [⟨none, (some 13), (.ld true 1 (.t 2))⟩, ⟨none, (some 14), (.faddr 0 (.t 3))⟩, ⟨none, (some 15), (.ld false 1 (.t 14))⟩, ⟨none, (some 16), (.call n_s_l25Order [(.t 13), (.t 15)])⟩, ⟨none, (some 8), (.mv (.t 16))⟩]
def r_s_l25Pages_4 : List CO := [⟨none, (some 9), (.mv (.k (.v (.int .i64 (0)))))⟩]
def r_s_l25Pages_5 : List CO := [⟨none, (some 17), (.mv (.t 9))⟩, ⟨none, (some 18), (.mv (.t 8))⟩, ⟨none, (some 19), (.len false (.t 18))⟩, ⟨none, (some 20), (.bin .lss .none (.t 17) (.t 19))⟩]
def r_s_l25Pages_6 : List CO := [⟨none, (some 23), (.faddr 0 (.t 2))⟩, ⟨none, (some 24), (.ld false 1 (.t 23))⟩, ⟨none, (some 25), (.mv (.t 8))⟩, ⟨none, (some 26), (.mv (.t 9))⟩, ⟨none, (some 27), (.iaddr 1 (.t 25) (.t 26))⟩, ⟨none, (some 28), (.ld false 1 (.t 27))⟩, ⟨none, (some 29), (.iaddr 18 (.t 24) (.t 28))⟩, ⟨none, (some 30), (.ld true 18 (.t 29))⟩, ⟨none, (some 31), (.faddr 1 (.t 3))⟩, ⟨none, (some 32), (.ld false 1 (.t 31))⟩, ⟨none, (some 33), (.call n_s_l25Lines [(.t 30), (.t 32)])⟩, ⟨none, (some 34), (.len false (.t 33))⟩, ⟨none, (some 10), (.mv (.t 34))⟩]
def p_s_l25Pages_6 : List (List Nat) := [[], [0], [], [], [2, 3], [2, 3, 4], [0, 1, 2, 3, 4, 5], [0, 1, 2, 3, 4, 5, 6], [], [8], [0, 1, 2, 3, 4, 5, 6, 7, 8, 9], [0, 1, 2, 3, 4, 5, 6, 7, 8, 9, 10], [0, 1, 2, 3, 4, 5, 6, 7, 8, 9, 10, 11]]
def r_s_l25Pages_7 : List CO := [⟨none, (some 35), (.mv (.t 10))⟩, ⟨none, (some 36), (.faddr 2 (.t 3))⟩, ⟨none, (some 37), (.ld false 1 (.t 36))⟩, ⟨none, (some 38), (.bin .gtr .none (.t 35) (.t 37))⟩]
def r_s_l25Pages_8 : List CO := [⟨none, (some 39), (.bslice 1 (.v (.slice none 0 0)) 0 [])⟩, ⟨none, (some 4), (.mv (.t 39))⟩, ⟨none, (some 5), (.mv (.k (.v (.bool false))))⟩]
def r_s_l25Pages_9 : List CO := [⟨none, (some 40), (.mv (.t 6))⟩, ⟨none, (some 41), (.len false (.t 40))⟩, ⟨none, (some 42), (.bin .eql .none (.t 41) (.k (.v (.int .i64 (0)))))⟩, ⟨none, (some 43), (.mv (.t 42))⟩, ⟨(some (43, false)), (some 44), (.mv (.t 7))⟩, ⟨(some (43, false)), (some 45), (.mv (.t 10))⟩, ⟨(some (43, false)), (some 46), (.bin .add .none (.t 44) (.t 45))⟩, ⟨(some (43, false)), (some 47), (.faddr 2 (.t 3))⟩, ⟨(some (43, false)), (some 48), (.ld false 1 (.t 47))⟩, ⟨(some (43, false)), (some 49), (.bin .gtr .none (.t 46) (.t 48))⟩, ⟨none, (some 50), (.pick (.t 43) (.k (.v (.bool true))) (.t 49))⟩]
def r_s_l25Pages_10 : List CO := [⟨none, (some 51), (.mv (.t 6))⟩, ⟨none, (some 52), (.bslice 1 (.v (.int .i64 (0))) 0 [])⟩, ⟨none, (some 53), (.bslice 1 (.v (.slice none 0 0)) 1 [(0, (.t 52))])⟩, ⟨none, (some 54), (.app 1 24 (.t 51) (.t 53))⟩, ⟨none, (some 6), (.mv (.t 54))⟩]
def r_s_l25Pages_11 : List CO := [⟨none, (some 7), (.mv (.k (.v (.int .i64 (0)))))⟩]
def r_s_l25Pages_12 : List CO := [⟨none, (some 55), (.mv (.t 6))⟩, ⟨none, (some 56), (.len false (.t 55))⟩, ⟨none, (some 57), (.bin .sub .none (.t 56) (.k (.v (.int .i64 (1)))))⟩, ⟨none, (some 11), (.mv (.t 57))⟩]
def r_s_l25Pages_13 : List CO := [⟨none, (some 58), (.mv (.t 6))⟩, ⟨none, (some 59), (.mv (.t 11))⟩, ⟨none, (some 60), (.mv (.t 6))⟩, ⟨none, (some 61), (.mv (.t 11))⟩, ⟨none, (some 62), (.iaddr 1 (.t 60) (.t 61))⟩, ⟨none, (some 63), (.ld false 1 (.t 62))⟩, ⟨none, (some 64), (.mv (.t 8))⟩, ⟨none, (some 65), (.mv (.t 9))⟩, ⟨none, (some 66), (.iaddr 1 (.t 64) (.t 65))⟩, ⟨none, (some 67), (.ld false 1 (.t 66))⟩, ⟨none, (some 68), (.bslice 1 (.v (.int .i64 (0))) 1 [(0, (.t 67))])⟩, ⟨none, (some 69), (.app 1 8 (.t 63) (.t 68))⟩, ⟨none, (some 70), (.iaddr 1 (.t 58) (.t 59))⟩, ⟨none, none, (.st 1 (.t 70) (.t 69))⟩]
def p_s_l25Pages_13 : List (List Nat) := [[], [], [], [], [2, 3], [2, 3, 4], [], [], [6, 7], [6, 7, 8], [6, 7, 8, 9], [2, 3, 4, 5, 6, 7, 8, 9, 10], [0, 1, 2, 3, 4, 5, 6, 7, 8, 9, 10, 11], [0, 1, 2, 3, 4, 5, 6, 7, 8, 9, 10, 11, 12]]
def r_s_l25Pages_14 : List CO := [⟨none, (some 71), (.mv (.t 7))⟩, ⟨none, (some 72), (.mv (.t 10))⟩, ⟨none, (some 73), (.bin .add .none (.t 71) (.t 72))⟩, ⟨none, (some 7), (.mv (.t 73))⟩]
def r_s_l25Pages_15 : List CO := [⟨none, (some 21), (.mv (.t 9))⟩, ⟨none, (some 22), (.bin .add .none (.t 21) (.k (.v (.int .i64 (1)))))⟩, ⟨none, (some 9), (.mv (.t 22))⟩]
def l_s_l25Pages_16 : C := (.seq (.seq (.reg r_s_l25Pages_5 [2, 3, 6, 7, 8, 9, 20]) (.cond (.t 20) .skip (.exit 0))) (.seq (.block 1 (.seq (.regD r_s_l25Pages_6 p_s_l25Pages_6 [2, 3, 6, 7, 8, 9, 10]) (.seq (.seq (.reg r_s_l25Pages_7 [2, 3, 6, 7, 8, 9, 10, 38]) (.cond (.t 38) (.seq (.reg r_s_l25Pages_8 [4, 5]) .ret) .skip)) (.seq (.seq (.reg r_s_l25Pages_9 [2, 3, 6, 7, 8, 9, 10, 50]) (.cond (.t 50) (.seq (.reg r_s_l25Pages_10 [2, 3, 6, 8, 9, 10]) (.reg r_s_l25Pages_11 [2, 3, 6, 7, 8, 9, 10])) .skip)) (.seq (.wk (.reg r_s_l25Pages_12 [2, 3, 6, 7, 8, 9, 10, 11])) (.seq (.regD r_s_l25Pages_13 p_s_l25Pages_13 [2, 3, 6, 7, 8, 9, 10]) (.reg r_s_l25Pages_14 [2, 3, 6, 7, 8, 9]))))))) (.reg r_s_l25Pages_15 [2, 3, 6, 7, 8, 9])))
def r_s_l25Pages_17 : List CO := [⟨none, (some 74), (.mv (.t 6))⟩, ⟨none, (some 4), (.mv (.t 74))⟩, ⟨none, (some 5), (.mv (.k (.v (.bool true))))⟩]
/-- loop.example/g00884/spec.l25Pages -/
def c_s_l25Pages : C := (.seq (.reg r_s_l25Pages_0 [2, 3]) (.seq (.reg r_s_l25Pages_1 [2, 3, 6]) (.seq (.reg r_s_l25Pages_2 [2, 3, 6, 7]) (.seq (.reg r_s_l25Pages_3 [2, 3, 6, 7, 8]) (.seq (.seq (.reg r_s_l25Pages_4 [2, 3, 6, 7, 8, 9]) (.block 0 (.loop l_s_l25Pages_16))) (.seq (.reg r_s_l25Pages_17 [4, 5]) .ret))))))
def k_s_l25Pages : Nat → List Nat
  | 0 => [2, 3]
  | 1 => [2, 3, 6]
  | 2 => [2, 3, 6, 7]
  | 3 => [2, 3, 6, 7, 8]
  | 4 => [2, 3, 6, 7, 8, 9]
  | 5 => [2, 3, 6, 7, 8, 9, 20]
  | 7 => [2, 3, 6, 7, 8, 9, 10]
  | 8 => [2, 3, 6, 7, 8, 9, 10, 38]
  | 9 => [4, 5]
  | 10 => [2, 3, 6, 7, 8, 9, 10, 50]
  | 11 => [2, 3, 6, 8, 9, 10]
  | 12 => [2, 3, 6, 7, 8, 9, 10]
  | 13 => [999999, 2, 3, 6, 7, 8, 9, 10, 11]
  | 14 => [2, 3, 6, 7, 8, 9, 10]
  | 15 => [2, 3, 6, 7, 8, 9]
  | 6 => [2, 3, 6, 7, 8, 9]
  | 16 => [4, 5]
  | _ => []
theorem fn_s_l25Pages : FnC Tryz.prog n_s_l25Pages c_s_l25Pages [(.tmp 4), (.tmp 5)] 75 :=
  ⟨Tryz.f107, _, k_s_l25Pages, Tryz.func107, rfl, by kernel_rfl, by kernel_rfl, by kernel_rfl, rfl⟩
def r_s_l25Asked_0 : List CO := [⟨none, (some 2), (.box 1 (.t 0))⟩, ⟨none, (some 3), (.box 3 (.t 1))⟩, ⟨none, (some 4), (.mv (.k (.v (.slice none 0 0))))⟩, ⟨none, (some 5), (.mv (.k (.v (.bool false))))⟩]
def r_s_l25Asked_1 : List CO := [⟨none, (some 6), (.ld true 1 (.t 2))⟩, ⟨none, (some 7), (.call n_s_l16Good [(.t 6)])⟩, ⟨none, (some 8), (.un .not (.t 7))⟩, ⟨none, (some 9), (.mv (.t 8))⟩, ⟨(some (9, false)), (some 10), (.ld true 3 (.t 3))⟩, ⟨(some (9, false)), (some 11), (.call n_s_l25Good [(.t 10)])⟩, ⟨(some (9, false)), (some 12), (.un .not (.t 11))⟩, ⟨none, (some 13), (.pick (.t 9) (.k (.v (.bool true))) (.t 12))⟩]
def r_s_l25Asked_2 : List CO := [⟨none, (some 14), (.bslice 1 (.v (.slice none 0 0)) 0 [])⟩, ⟨none, (some 4), (.mv (.t 14))⟩, ⟨none, (some 5), (.mv (.k (.v (.bool false))))⟩]
def r_s_l25Asked_3 : List CO := [⟨none, (some 15), (.ld true 1 (.t 2))⟩, ⟨none, (some 16), (.ld true 3 (.t 3))⟩, ⟨none, (some 17), (.call n_s_l25Pages [(.t 15), (.t 16)])⟩, ⟨none, (some 18), (.ext (.t 17) 0)⟩, ⟨none, (some 19), (.ext (.t 17) 1)⟩, ⟨none, (some 4), (.mv (.t 18))⟩, ⟨none, (some 5), (.mv (.t 19))⟩]
/-- loop.example/g00884/spec.l25Asked -/
def c_s_l25Asked : C := (.seq (.reg r_s_l25Asked_0 [2, 3]) (.seq (.seq (.reg r_s_l25Asked_1 [2, 3, 13]) (.cond (.t 13) (.seq (.reg r_s_l25Asked_2 [4, 5]) .ret) .skip)) (.seq (.reg r_s_l25Asked_3 [4, 5]) .ret)))
def k_s_l25Asked : Nat → List Nat
  | 0 => [2, 3]
  | 1 => [2, 3, 13]
  | 2 => [4, 5]
  | 3 => [4, 5]
  | _ => []
theorem fn_s_l25Asked : FnC Tryz.prog n_s_l25Asked c_s_l25Asked [(.tmp 4), (.tmp 5)] 20 :=
  ⟨Tryz.f70, _, k_s_l25Asked, Tryz.func70, rfl, by kernel_rfl, by kernel_rfl, by kernel_rfl, rfl⟩
end Go.Proofs.YtbeoijlggphklaaGreatDoor

/- The compact code of the functions, and that it is theirs: written by a program of this claim. -/
namespace Go.Proofs.YtbeoijlggphklaaGreatDoor
open Go.Abs
set_option maxRecDepth 100000
def r_s_l25Lines_0 : List CO := [⟨none, (some 2), (.box 18 (.t 0))⟩, ⟨none, (some 4), (.mv (.k (.v (.slice none 0 0))))⟩]
def r_s_l25Lines_1 : List CO := [⟨none, (some 9), (.faddr 0 (.t 2))⟩, ⟨none, (some 10), (.ld false 1 (.t 9))⟩, ⟨none, (some 11), (.call n_s_l1Num [(.t 10)])⟩, ⟨none, (some 12), (.bin .add .none (.t 11) (.k (.v (.string (bs [46, 32])))))⟩, ⟨none, (some 13), (.faddr 1 (.t 2))⟩, ⟨none, (some 14), (.ld false 1 (.t 13))⟩, ⟨none, (some 15), (.bin .add .none (.t 12) (.t 14))⟩, ⟨none, (some 16), (.bin .add .none (.t 15) (.k (.v (.string (bs [44, 32])))))⟩, ⟨none, (some 17), (.faddr 2 (.t 2))⟩, ⟨none, (some 18), (.ld false 1 (.t 17))⟩, ⟨none, (some 19), (.call n_s_l1Num [(.t 18)])⟩, ⟨none, (some 20), (.bin .add .none (.t 16) (.t 19))⟩, ⟨none, (some 21), (.bslice 1 (.v (.string (bs []))) 1 [(0, (.t 20))])⟩, ⟨none, (some 5), (.mv (.t 21))⟩]
def p_s_l25Lines_1 : List (List Nat) := [[], [0], [0, 1], [0, 1, 2], [], [4], [0, 1, 2, 3, 4, 5], [0, 1, 2, 3, 4, 5, 6], [], [8], [0, 1, 2, 8, 9], [0, 1, 2, 3, 4, 5, 6, 7, 8, 9, 10], [0, 1, 2, 3, 4, 5, 6, 7, 8, 9, 10, 11], [0, 1, 2, 3, 4, 5, 6, 7, 8, 9, 10, 11, 12]]
def r_s_l25Lines_2 : List CO := [⟨none, (some 22), (.faddr 3 (.t 2))⟩, ⟨none, (some 23), (.ld true 15 (.t 22))⟩, ⟨none, (some 24), (.call n_s_l6Text [(.t 23)])⟩, ⟨none, (some 25), (.call n_s_l1Split [(.t 24), (.k (.v (.int .u8 (32))))])⟩, ⟨none, (some 6), (.mv (.t 25))⟩]
def r_s_l25Lines_3 : List CO := [⟨none, (some 7), (.mv (.k (.v (.string (bs [])))))⟩]
def r_s_l25Lines_4 : List CO := [⟨none, (some 8), (.mv (.k (.v (.int .i64 (0)))))⟩]
def r_s_l25Lines_5 : List CO := [⟨none, (some 26), (.mv (.t 8))⟩, ⟨none, (some 27), (.mv (.t 6))⟩, ⟨none, (some 28), (.len false (.t 27))⟩, ⟨none, (some 29), (.bin .lss .none (.t 26) (.t 28))⟩]
def r_s_l25Lines_6 : List CO := [⟨none, (some 42), (.mv (.t 7))⟩, ⟨none, (some 43), (.bin .eql .none (.t 42) (.k (.v (.string (bs [])))))⟩, ⟨none, (some 41), (.mv (.t 43))⟩]
def r_s_l25Lines_7 : List CO := [⟨none, (some 44), (.mv (.t 6))⟩, ⟨none, (some 45), (.mv (.t 8))⟩, ⟨none, (some 46), (.iaddr 1 (.t 44) (.t 45))⟩, ⟨none, (some 47), (.ld false 1 (.t 46))⟩, ⟨none, (some 7), (.mv (.t 47))⟩]
def r_s_l25Lines_8 : List CO := [⟨none, (some 49), (.mv (.t 7))⟩, ⟨none, (some 50), (.len true (.t 49))⟩, ⟨none, (some 51), (.bin .add .none (.t 50) (.k (.v (.int .i64 (1)))))⟩, ⟨none, (some 52), (.mv (.t 6))⟩, ⟨none, (some 53), (.mv (.t 8))⟩, ⟨none, (some 54), (.iaddr 1 (.t 52) (.t 53))⟩, ⟨none, (some 55), (.ld false 1 (.t 54))⟩, ⟨none, (some 56), (.len true (.t 55))⟩, ⟨none, (some 57), (.bin .add .none (.t 51) (.t 56))⟩, ⟨none, (some 58), (.mv (.t 1))⟩, ⟨none, (some 59), (.bin .sub .none (.t 58) (.k (.v (.int .i64 (2)))))⟩, ⟨none, (some 60), (.bin .leq .none (.t 57) (.t 59))⟩, ⟨none, (some 48), (.mv (.t 60))⟩]
def r_s_l25Lines_9 : List CO := [⟨none, (some 61), (.mv (.t 7))⟩, ⟨none, (some 62), (.bin .add .none (.t 61) (.k (.v (.string (bs [32])))))⟩, ⟨none, (some 63), (.mv (.t 6))⟩, ⟨none, (some 64), (.mv (.t 8))⟩, ⟨none, (some 65), (.iaddr 1 (.t 63) (.t 64))⟩, ⟨none, (some 66), (.ld false 1 (.t 65))⟩, ⟨none, (some 67), (.bin .add .none (.t 62) (.t 66))⟩, ⟨none, (some 7), (.mv (.t 67))⟩]
def r_s_l25Lines_10 : List CO := [⟨none, (some 32), (.mv (.t 5))⟩, ⟨none, (some 33), (.mv (.t 7))⟩, ⟨none, (some 34), (.bin .add .none (.k (.v (.string (bs [32, 32])))) (.t 33))⟩, ⟨none, (some 35), (.bslice 1 (.v (.string (bs []))) 1 [(0, (.t 34))])⟩, ⟨none, (some 36), (.app 1 16 (.t 32) (.t 35))⟩, ⟨none, (some 5), (.mv (.t 36))⟩]
def r_s_l25Lines_11 : List CO := [⟨none, (some 37), (.mv (.t 6))⟩, ⟨none, (some 38), (.mv (.t 8))⟩, ⟨none, (some 39), (.iaddr 1 (.t 37) (.t 38))⟩, ⟨none, (some 40), (.ld false 1 (.t 39))⟩, ⟨none, (some 7), (.mv (.t 40))⟩]
def r_s_l25Lines_12 : List CO := [⟨none, (some 30), (.mv (.t 8))⟩, ⟨none, (some 31), (.bin .add .none (.t 30) (.k (.v (.int .i64 (1)))))⟩, ⟨none, (some 8), (.mv (.t 31))⟩]
def l_s_l25Lines_13 : C := (.seq (.seq (.reg r_s_l25Lines_5 [1, 5, 6, 7, 8, 29]) (.cond (.t 29) .skip (.exit 0))) (.seq (.block 1 (.block 2 (.seq (.reg r_s_l25Lines_6 [1, 5, 6, 7, 8, 41]) (.cond (.t 41) (.reg r_s_l25Lines_7 [1, 5, 6, 7, 8]) (.seq (.reg r_s_l25Lines_8 [1, 5, 6, 7, 8, 48]) (.cond (.t 48) (.reg r_s_l25Lines_9 [1, 5, 6, 7, 8]) (.seq (.reg r_s_l25Lines_10 [1, 5, 6, 8]) (.reg r_s_l25Lines_11 [1, 5, 6, 7, 8])))))))) (.reg r_s_l25Lines_12 [1, 5, 6, 7, 8])))
def r_s_l25Lines_14 : List CO := [⟨none, (some 68), (.mv (.t 5))⟩, ⟨none, (some 69), (.mv (.t 7))⟩, ⟨none, (some 70), (.bin .add .none (.k (.v (.string (bs [32, 32])))) (.t 69))⟩, ⟨none, (some 71), (.bslice 1 (.v (.string (bs []))) 1 [(0, (.t 70))])⟩, ⟨none, (some 72), (.app 1 16 (.t 68) (.t 71))⟩, ⟨none, (some 4), (.mv (.t 72))⟩]
/-- loop.example/g00884/spec.l25Lines -/
def c_s_l25Lines : C := (.seq (.reg r_s_l25Lines_0 [1, 2]) (.seq (.regD r_s_l25Lines_1 p_s_l25Lines_1 [1, 2, 5]) (.seq (.reg r_s_l25Lines_2 [1, 5, 6]) (.seq (.reg r_s_l25Lines_3 [1, 5, 6, 7]) (.seq (.seq (.reg r_s_l25Lines_4 [1, 5, 6, 7, 8]) (.block 0 (.loop l_s_l25Lines_13))) (.seq (.reg r_s_l25Lines_14 [4]) .ret))))))
def k_s_l25Lines : Nat → List Nat
  | 0 => [1, 2]
  | 1 => [1, 2, 5]
  | 2 => [1, 5, 6]
  | 3 => [1, 5, 6, 7]
  | 4 => [1, 5, 6, 7, 8]
  | 5 => [1, 5, 6, 7, 8, 29]
  | 9 => [1, 5, 6, 7, 8, 41]
  | 10 => [1, 5, 6, 7, 8]
  | 11 => [1, 5, 6, 7, 8, 48]
  | 12 => [1, 5, 6, 7, 8]
  | 7 => [1, 5, 6, 8]
  | 8 => [1, 5, 6, 7, 8]
  | 6 => [1, 5, 6, 7, 8]
  | 13 => [4]
  | _ => []
theorem fn_s_l25Lines : FnC Tryz.prog n_s_l25Lines c_s_l25Lines [(.tmp 4)] 73 :=
  ⟨Tryz.f54, _, k_s_l25Lines, Tryz.func54, rfl, by kernel_rfl, by kernel_rfl, by kernel_rfl, rfl⟩
end Go.Proofs.YtbeoijlggphklaaGreatDoor

/- The compact code of the functions, and that it is theirs: written by a program of this claim. -/
namespace Go.Proofs.YtbeoijlggphklaaGreatDoor
open Go.Abs
set_option maxRecDepth 100000
def r_i_entry_0 : List CO := [⟨none, (some 2), (.box 18 (.t 0))⟩, ⟨none, (some 4), (.mv (.k (.v (.slice none 0 0))))⟩]
def r_i_entry_1 : List CO := [⟨none, (some 8), (.faddr 0 (.t 2))⟩, ⟨none, (some 9), (.ld false 1 (.t 8))⟩, ⟨none, (some 10), (.call n_strconv_Itoa [(.t 9)])⟩, ⟨none, (some 11), (.bin .add .none (.t 10) (.k (.v (.string (bs [46, 32])))))⟩, ⟨none, (some 12), (.faddr 1 (.t 2))⟩, ⟨none, (some 13), (.ld false 1 (.t 12))⟩, ⟨none, (some 14), (.bin .add .none (.t 11) (.t 13))⟩, ⟨none, (some 15), (.bin .add .none (.t 14) (.k (.v (.string (bs [44, 32])))))⟩, ⟨none, (some 16), (.faddr 2 (.t 2))⟩, ⟨none, (some 17), (.ld false 1 (.t 16))⟩, ⟨none, (some 18), (.call n_strconv_Itoa [(.t 17)])⟩, ⟨none, (some 19), (.bin .add .none (.t 15) (.t 18))⟩, ⟨none, (some 20), (.bslice 1 (.v (.string (bs []))) 1 [(0, (.t 19))])⟩, ⟨none, (some 5), (.mv (.t 20))⟩]
def p_i_entry_1 : List (List Nat) := [[], [0], [0, 1], [0, 1, 2], [], [4], [0, 1, 2, 3, 4, 5], [0, 1, 2, 3, 4, 5, 6], [], [8], [0, 1, 2, 8, 9], [0, 1, 2, 3, 4, 5, 6, 7, 8, 9, 10], [0, 1, 2, 3, 4, 5, 6, 7, 8, 9, 10, 11], [0, 1, 2, 3, 4, 5, 6, 7, 8, 9, 10, 11, 12]]
def r_i_entry_2 : List CO := [⟨none, (some 21), (.faddr 3 (.t 2))⟩, ⟨none, (some 22), (.ld true 15 (.t 21))⟩, ⟨none, (some 23), (.call n_i_Arms_text [(.t 22)])⟩, ⟨none, (some 24), (.mv (.t 1))⟩, ⟨none, (some 25), (.bin .sub .none (.t 24) (.k (.v (.int .i64 (2)))))⟩, ⟨none, (some 26), (.call n_i_wrapped [(.t 23), (.t 25)])⟩, ⟨none, (some 27), (.len false (.t 26))⟩, ⟨none, (some 28), (.mv (.k (.v (.int .i64 (0)))))⟩]
def r_i_entry_3 : List CO := [⟨none, (some 29), (.bin .lss .none (.t 28) (.t 27))⟩]
def r_i_entry_4 : List CO := [⟨none, (some 30), (.iaddr 1 (.t 26) (.t 28))⟩, ⟨none, (some 31), (.ld false 1 (.t 30))⟩, ⟨none, (some 7), (.mv (.t 31))⟩]
def r_i_entry_5 : List CO := [⟨none, (some 32), (.mv (.t 5))⟩, ⟨none, (some 33), (.mv (.t 7))⟩, ⟨none, (some 34), (.bin .add .none (.k (.v (.string (bs [32, 32])))) (.t 33))⟩, ⟨none, (some 35), (.bslice 1 (.v (.string (bs []))) 1 [(0, (.t 34))])⟩, ⟨none, (some 36), (.app 1 16 (.t 32) (.t 35))⟩, ⟨none, (some 5), (.mv (.t 36))⟩]
def r_i_entry_6 : List CO := [⟨none, (some 37), (.bin .add .none (.t 28) (.k (.v (.int .i64 (1)))))⟩, ⟨none, (some 28), (.mv (.t 37))⟩]
def l_i_entry_7 : C := (.seq (.reg r_i_entry_3 [5, 26, 27, 28, 29]) (.seq (.cond (.t 29) .skip (.exit 0)) (.seq (.block 1 (.seq (.reg r_i_entry_4 [5, 7, 26, 27, 28]) (.reg r_i_entry_5 [5, 26, 27, 28]))) (.reg r_i_entry_6 [5, 26, 27, 28]))))
def r_i_entry_8 : List CO := [⟨none, (some 38), (.mv (.t 5))⟩, ⟨none, (some 4), (.mv (.t 38))⟩]
/-- loop.example/g00884/impl.entry -/
def c_i_entry : C := (.seq (.reg r_i_entry_0 [1, 2]) (.seq (.regD r_i_entry_1 p_i_entry_1 [1, 2, 5]) (.seq (.seq (.reg r_i_entry_2 [5, 26, 27, 28]) (.block 0 (.loop l_i_entry_7))) (.seq (.reg r_i_entry_8 [4]) .ret))))
def k_i_entry : Nat → List Nat
  | 0 => [1, 2]
  | 1 => [1, 2, 5]
  | 2 => [5, 26, 27, 28]
  | 3 => [5, 26, 27, 28, 29]
  | 4 => [5, 7, 26, 27, 28]
  | 5 => [5, 26, 27, 28]
  | 6 => [5, 26, 27, 28]
  | 7 => [4]
  | _ => []
theorem fn_i_entry : FnC Tryz.prog n_i_entry c_i_entry [(.tmp 4)] 39 :=
  ⟨Tryz.f58, _, k_i_entry, Tryz.func58, rfl, by kernel_rfl, by kernel_rfl, by kernel_rfl, rfl⟩
end Go.Proofs.YtbeoijlggphklaaGreatDoor

/- The compact code of the functions, and that it is theirs: written by a program of this claim. -/
namespace Go.Proofs.YtbeoijlggphklaaGreatDoor
open Go.Abs
set_option maxRecDepth 100000
def r_i_inside_0 : List CO := [⟨none, (some 6), (.mv (.k (.v (.bool false))))⟩]
def r_i_inside_1 : List CO := [⟨none, (some 7), (.mv (.t 0))⟩, ⟨none, (some 8), (.mv (.t 1))⟩, ⟨none, (some 9), (.bin .geq .none (.t 7) (.t 8))⟩, ⟨none, (some 10), (.mv (.t 9))⟩, ⟨(some (10, true)), (some 11), (.mv (.t 0))⟩, ⟨(some (10, true)), (some 12), (.mv (.t 2))⟩, ⟨(some (10, true)), (some 13), (.bin .leq .none (.t 11) (.t 12))⟩, ⟨none, (some 14), (.pick (.t 10) (.t 13) (.k (.v (.bool false))))⟩, ⟨none, (some 6), (.mv (.t 14))⟩]
/-- loop.example/g00884/impl.inside -/
def c_i_inside : C := (.seq (.reg r_i_inside_0 [0, 1, 2]) (.seq (.reg r_i_inside_1 [6]) .ret))
def k_i_inside : Nat → List Nat
  | 0 => [0, 1, 2]
  | 1 => [6]
  | _ => []
theorem fn_i_inside : FnC Tryz.prog n_i_inside c_i_inside [(.tmp 6)] 15 :=
  ⟨Tryz.f57, _, k_i_inside, Tryz.func57, rfl, by kernel_rfl, by kernel_rfl, by kernel_rfl, rfl⟩
def r_s_l1In_0 : List CO := [⟨none, (some 6), (.mv (.k (.v (.bool false))))⟩]
def r_s_l1In_1 : List CO := [⟨none, (some 7), (.mv (.t 0))⟩, ⟨none, (some 8), (.mv (.t 1))⟩, ⟨none, (some 9), (.bin .geq .none (.t 7) (.t 8))⟩, ⟨none, (some 10), (.mv (.t 9))⟩, ⟨(some (10, true)), (some 11), (.mv (.t 0))⟩, ⟨(some (10, true)), (some 12), (.mv (.t 2))⟩, ⟨(some (10, true)), (some 13), (.bin .leq .none (.t 11) (.t 12))⟩, ⟨none, (some 14), (.pick (.t 10) (.t 13) (.k (.v (.bool false))))⟩, ⟨none, (some 6), (.mv (.t 14))⟩]
/-- loop.example/g00884/spec.l1In -/
def c_s_l1In : C := (.seq (.reg r_s_l1In_0 [0, 1, 2]) (.seq (.reg r_s_l1In_1 [6]) .ret))
def k_s_l1In : Nat → List Nat
  | 0 => [0, 1, 2]
  | 1 => [6]
  | _ => []
theorem fn_s_l1In : FnC Tryz.prog n_s_l1In c_s_l1In [(.tmp 6)] 15 :=
  ⟨Tryz.f53, _, k_s_l1In, Tryz.func53, rfl, by kernel_rfl, by kernel_rfl, by kernel_rfl, rfl⟩
end Go.Proofs.YtbeoijlggphklaaGreatDoor

/- Contracts of small helpers. -/
set_option linter.unusedVariables false
set_option linter.unusedSimpArgs false
namespace Go.Proofs.YtbeoijlggphklaaGreatDoor
open Go.Abs

/-- A number in bounds. -/
def inR (n lo hi : Int) : Bool := decide (lo ≤ n) && decide (n ≤ hi)
theorem inR_iff {n lo hi : Int} : inR n lo hi = true ↔ lo ≤ n ∧ n ≤ hi := by simp [inR]
theorem inR_not {n lo hi : Int} : inR n lo hi = false ↔ n < lo ∨ hi < n := by
  rw [← Bool.not_eq_true, inR_iff]; omega

theorem i_inside (n lo hi : Int) : PCall Tryz.prog n_i_inside [I n, I lo, I hi] (B (inR n lo hi)) := by
  refine PCall.of fn_i_inside (by simp) ?_
  simp [c_i_inside, r_i_inside_0, r_i_inside_1, inR]
  omega
theorem s_l1In (n lo hi : Int) : PCall Tryz.prog n_s_l1In [I n, I lo, I hi] (B (inR n lo hi)) := by
  refine PCall.of fn_s_l1In (by simp) ?_
  simp [c_s_l1In, r_s_l1In_0, r_s_l1In_1, inR]
  omega

theorem take_succ' {α : Type} {l : List α} {i : Nat} (h : i < l.length) : l.take (i + 1) = l.take i ++ [l[i]] := by simp
/-! A row of n elements, the first i of which are written. -/
theorem half_get {β : Type} {xs : List β} {z : β} {n i : Nat} (hx : xs.length = i) (h : i < n) : (xs ++ List.replicate (n - i) z)[i]? = some z := by
  rw [List.getElem?_append_right (by omega), hx, Nat.sub_self, List.getElem?_replicate, if_pos (by omega)]
theorem half_set {β : Type} {xs : List β} {z v : β} {n i : Nat} (hx : xs.length = i) (h : i < n) : (xs ++ List.replicate (n - i) z).set i v = (xs ++ [v]) ++ List.replicate (n - (i + 1)) z := by
  rw [List.set_append_right _ _ (by omega), hx, Nat.sub_self]
  obtain ⟨m, e⟩ : ∃ m, n - i = m + 1 := ⟨n - i - 1, by omega⟩
  rw [e, List.replicate_succ, List.set_cons_zero, show n - (i + 1) = m from by omega]
  simp

theorem app_set {β : Type} {xs ys : List β} {v w : β} {i : Nat} (hx : xs.length = i) : (xs ++ v :: ys).set i w = xs ++ w :: ys := by subst hx; simp
theorem app_get {β : Type} {xs ys : List β} {v : β} {i : Nat} (hx : xs.length = i) : (xs ++ v :: ys)[i]? = some v := by subst hx; simp

theorem all_take_succ {α : Type} {p : α → Bool} {l : List α} {i : Nat} (h : i < l.length) : (l.take (i + 1)).all p = ((l.take i).all p && p l[i]) := by
  rw [take_succ' h, List.all_append]; simp only [List.all_cons, List.all_nil, Bool.and_true]
theorem all_false {α : Type} {p : α → Bool} {l : List α} {i : Nat} (h : i < l.length) (hp : p l[i] = false) : l.all p = false := by
  rw [← Bool.not_eq_true, List.all_eq_true]
  intro h'
  rw [h' _ (List.getElem_mem h)] at hp; cases hp

/-- The sum of the lengths of rows. -/
def total {α : Type} (l : List (List α)) : Nat := (l.map List.length).sum
@[simp] theorem total_nil {α : Type} : total ([] : List (List α)) = 0 := rfl
@[simp] theorem total_cons {α : Type} (r : List α) (l : List (List α)) : total (r :: l) = r.length + total l := by simp [total]
@[simp] theorem total_append {α : Type} (a b : List (List α)) : total (a ++ b) = total a + total b := by simp [total]
theorem total_take_le {α : Type} (l : List (List α)) (i : Nat) : total (l.take i) ≤ total l := by
  have : total l = total (l.take i) + total (l.drop i) := by rw [← total_append, List.take_append_drop]
  omega
theorem allIx_succ (q : Nat → Bool) (i : Nat) : (List.range (i + 1)).all q = ((List.range i).all q && q i) := by
  simp only [List.range_succ, List.all_append, List.all_cons, List.all_nil, Bool.and_true]
theorem allIx_false {q : Nat → Bool} {n i : Nat} (h : i < n) (hq : q i = false) : (List.range n).all q = false := by
  rw [← Bool.not_eq_true, List.all_eq_true]
  intro h'
  rw [h' i (List.mem_range.2 h)] at hq; cases hq
end Go.Proofs.YtbeoijlggphklaaGreatDoor

/- Orders and pages of a roll, as plain rows. No program in sight. -/
set_option linter.unusedVariables false
set_option linter.unusedSimpArgs false
namespace Go.Proofs.YtbeoijlggphklaaGreatDoor
open Go.Abs

/-- x is put into a row from its right end, before those of which p holds. -/
def insR {α : Type} (p : α → Bool) (x : α) (l : List α) : List α := l.take (l.length - (l.reverse.takeWhile p).length) ++ x :: l.drop (l.length - (l.reverse.takeWhile p).length)
theorem insR_at {α : Type} {p : α → Bool} {x : α} {l : List α} {j : Nat} (hj : j ≤ l.length) (h1 : ∀ q (h : q < l.length), j ≤ q → p l[q] = true) (h2 : ∀ h : 0 < j, p (l[j - 1]'(by omega)) = false) :
    insR p x l = l.take j ++ x :: l.drop j := by
  have e : (l.reverse.takeWhile p).length = l.length - j := by
    have h0 : l.reverse = (l.drop j).reverse ++ (l.take j).reverse := by rw [← List.reverse_append, List.take_append_drop]
    have h3 : ∀ a ∈ (l.drop j).reverse, p a = true := by
      intro a ha
      rw [List.mem_reverse] at ha
      obtain ⟨q, hq, rfl⟩ := List.getElem_of_mem ha
      rw [List.getElem_drop]
      exact h1 _ _ (by omega)
    have h4 : (l.take j).reverse.takeWhile p = [] := by
      cases j with
      | zero => simp
      | succ j =>
        have := h2 (by omega)
        rw [List.take_succ_eq_append_getElem (by omega), List.reverse_append]
        simp only [Nat.add_sub_cancel] at this
        simp [this]
    rw [h0, List.takeWhile_append_of_pos h3, h4]
    simp
  unfold insR
  rw [e, show l.length - (l.length - j) = j by omega]
theorem insR_len {α : Type} (p : α → Bool) (x : α) (l : List α) : (insR p x l).length = l.length + 1 := by
  unfold insR
  generalize l.length - (l.reverse.takeWhile p).length = k
  rw [List.length_append, List.length_cons, List.length_take, List.length_drop]; omega
theorem insR_mem {α : Type} {p : α → Bool} {x y : α} {l : List α} : y ∈ insR p x l ↔ y = x ∨ y ∈ l := by
  unfold insR
  generalize l.length - (l.reverse.takeWhile p).length = k
  rw [List.mem_append, List.mem_cons]
  conv => rhs; rw [← List.take_append_drop k l, List.mem_append]
  constructor
  · rintro (h | h | h)
    · exact .inr (.inl h)
    · exact .inl h
    · exact .inr (.inr h)
  · rintro (h | h | h)
    · exact .inr (.inl h)
    · exact .inl h
    · exact .inr (.inr h)
theorem takeWhile_congr {α : Type} {p q : α → Bool} : ∀ {l : List α}, (∀ y ∈ l, p y = q y) → l.takeWhile p = l.takeWhile q
  | [], _ => rfl
  | x :: l, h => by
    rw [List.takeWhile_cons, List.takeWhile_cons, h x (by simp), takeWhile_congr fun y hy => h y (by simp [hy])]
theorem insR_congr {α : Type} {p q : α → Bool} {x : α} {l : List α} (h : ∀ y ∈ l, p y = q y) : insR p x l = insR q x l := by
  unfold insR
  rw [takeWhile_congr (q := q) fun y hy => h y (List.mem_reverse.1 hy)]
theorem insR_map {α β : Type} (f : β → α) (p : α → Bool) (x : β) (l : List β) : insR p (f x) (l.map f) = (insR (fun y => p (f y)) x l).map f := by
  have e : ((l.map f).reverse.takeWhile p).length = (l.reverse.takeWhile fun y => p (f y)).length := by
    rw [← List.map_reverse, List.takeWhile_map, List.length_map]; rfl
  unfold insR
  rw [e, List.length_map, List.map_append, List.map_cons, List.map_take, List.map_drop]
/-- A row in order, stable. -/
def sortR {α : Type} (lt : α → α → Bool) (l : List α) : List α := l.foldl (fun acc x => insR (lt x) x acc) []
theorem sortR_snoc {α : Type} (lt : α → α → Bool) (l : List α) (x : α) : sortR lt (l ++ [x]) = insR (lt x) x (sortR lt l) := by
  unfold sortR
  rw [List.foldl_append]; rfl
/-- From the end. -/
theorem snoc_ind {α : Type} {P : List α → Prop} (h0 : P []) (h1 : ∀ l x, P l → P (l ++ [x])) (l : List α) : P l := by
  have : ∀ n (l : List α), l.length = n → P l := by
    intro n
    induction n with
    | zero => intro l h; rw [List.length_eq_zero_iff.1 h]; exact h0
    | succ n ih =>
      intro l h
      have hne : l ≠ [] := by rintro rfl; simp at h
      rw [← List.dropLast_concat_getLast hne]
      exact h1 _ _ (ih _ (by rw [List.length_dropLast]; omega))
  exact this _ l rfl
theorem sortR_len {α : Type} (lt : α → α → Bool) (l : List α) : (sortR lt l).length = l.length := by
  induction l using snoc_ind with
  | h0 => rfl
  | h1 l x ih => rw [sortR_snoc, insR_len, ih, List.length_append]; rfl
theorem sortR_mem {α : Type} {lt : α → α → Bool} {l : List α} {y : α} : y ∈ sortR lt l ↔ y ∈ l := by
  induction l using snoc_ind with
  | h0 => rfl
  | h1 l x ih =>
    rw [sortR_snoc, insR_mem, ih, List.mem_append, List.mem_singleton]
    exact Or.comm
theorem sortR_map {α β : Type} (f : β → α) (lt : α → α → Bool) (l : List β) : sortR lt (l.map f) = (sortR (fun a b => lt (f a) (f b)) l).map f := by
  induction l using snoc_ind with
  | h0 => rfl
  | h1 l x ih => rw [List.map_append, List.map_cons, List.map_nil, sortR_snoc, ih, insR_map, sortR_snoc]
theorem sortR_none {α : Type} {lt : α → α → Bool} (h : ∀ x y, lt x y = false) (l : List α) : sortR lt l = l := by
  induction l using snoc_ind with
  | h0 => rfl
  | h1 l x ih =>
    rw [sortR_snoc, ih, insR_at (Nat.le_refl _) (fun q h1 h2 => by omega) (fun _ => h _ _)]
    simp

/-! ### Pages -/
def sizeB {α : Type} (sz : α → Nat) (p : List α) : Nat := (p.map sz).sum
theorem sizeB_snoc {α : Type} (sz : α → Nat) (p : List α) (x : α) : sizeB sz (p ++ [x]) = sizeB sz p + sz x := by simp [sizeB]
/-- Pages that are full, and the page that is being filled. -/
def packGo {α : Type} (sz : α → Nat) (h : Nat) : List (List α) → List α → List α → Option (List (List α))
  | done, cur, [] => some (if cur.isEmpty then done else done ++ [cur])
  | done, cur, x :: xs => if h < sz x then none else if cur.isEmpty then packGo sz h done [x] xs else if h < sizeB sz cur + sz x then packGo sz h (done ++ [cur]) [x] xs else packGo sz h done (cur ++ [x]) xs
/-- The pages on which things of some sizes stand. -/
def packs {α : Type} (sz : α → Nat) (h : Nat) (l : List α) : Option (List (List α)) := packGo sz h [] [] l
theorem packGo_map {α β : Type} (f : β → α) (sz : α → Nat) (h : Nat) : ∀ (l : List β) (done : List (List β)) (cur : List β), packGo sz h (done.map (·.map f)) (cur.map f) (l.map f) = (packGo (fun b => sz (f b)) h done cur l).map (·.map (·.map f))
  | [], done, cur => by
    cases cur <;> simp [packGo]
  | x :: xs, done, cur => by
    have e : sizeB sz (cur.map f) = sizeB (fun b => sz (f b)) cur := by simp [sizeB, Function.comp_def]
    have e0 : (cur.map f).isEmpty = cur.isEmpty := by cases cur <;> rfl
    rw [List.map_cons, packGo, packGo, e, e0]
    have h1 := packGo_map f sz h xs done [x]
    have h2 := packGo_map f sz h xs (done ++ [cur]) [x]
    have h3 := packGo_map f sz h xs done (cur ++ [x])
    simp only [List.map_append, List.map_cons, List.map_nil] at h1 h2 h3
    split
    · rfl
    split
    · exact h1
    split
    · exact h2
    · exact h3
theorem packs_map {α β : Type} (f : β → α) (sz : α → Nat) (h : Nat) (l : List β) : packs sz h (l.map f) = (packs (fun b => sz (f b)) h l).map (·.map (·.map f)) := packGo_map f sz h l [] []
/-- What is on pages. -/
theorem packGo_flat {α : Type} {sz : α → Nat} {h : Nat} : ∀ (l : List α) (done : List (List α)) (cur : List α) (ps : List (List α)), packGo sz h done cur l = some ps → ps.flatten = done.flatten ++ cur ++ l
  | [], done, cur, ps, e => by
    rw [packGo] at e
    cases cur with
    | nil => simp at e; simp [← e]
    | cons a t => simp at e; simp [← e]
  | x :: xs, done, cur, ps, e => by
    rw [packGo] at e
    split at e
    · cases e
    split at e
    · rename_i hc
      rw [packGo_flat xs _ _ ps e]
      rw [List.isEmpty_iff.1 hc]; simp
    split at e
    · rw [packGo_flat xs _ _ ps e]; simp
    · rw [packGo_flat xs _ _ ps e]; simp
theorem packs_flat {α : Type} {sz : α → Nat} {h : Nat} {l : List α} {ps : List (List α)} (e : packs sz h l = some ps) : ps.flatten = l := by
  have := packGo_flat _ _ _ _ e
  simpa using this
/-- No page is empty, none too long. -/
theorem packGo_ok {α : Type} {sz : α → Nat} {h : Nat} : ∀ (l : List α) (done : List (List α)) (cur : List α) (ps : List (List α)), (∀ p ∈ done, p ≠ [] ∧ sizeB sz p ≤ h) → sizeB sz cur ≤ h → packGo sz h done cur l = some ps → ∀ p ∈ ps, p ≠ [] ∧ sizeB sz p ≤ h
  | [], done, cur, ps, hd, hc, e => by
    rw [packGo] at e
    cases cur with
    | nil => simp at e; rw [← e]; exact hd
    | cons a t =>
      simp at e
      rw [← e]
      intro p hp
      rw [List.mem_append, List.mem_singleton] at hp
      rcases hp with hp | rfl
      · exact hd p hp
      · exact ⟨by simp, hc⟩
  | x :: xs, done, cur, ps, hd, hc, e => by
    rw [packGo] at e
    split at e
    · cases e
    split at e
    · exact packGo_ok xs _ _ ps hd (by simp [sizeB]; omega) e
    split at e
    · rename_i hx hce _
      refine packGo_ok xs _ _ ps (fun p hp => ?_) (by simp [sizeB]; omega) e
      rw [List.mem_append, List.mem_singleton] at hp
      rcases hp with hp | rfl
      · exact hd p hp
      · exact ⟨by rintro rfl; exact hce rfl, hc⟩
    · exact packGo_ok xs _ _ ps hd (by rw [sizeB_snoc]; omega) e
theorem packs_ok {α : Type} {sz : α → Nat} {h : Nat} {l : List α} {ps : List (List α)} (e : packs sz h l = some ps) : ∀ p ∈ ps, p ≠ [] ∧ sizeB sz p ≤ h :=
  packGo_ok l [] [] ps (by simp) (by simp [sizeB]) e
/-- The page of each. -/
def ofGo {α : Type} : Nat → List (List α) → List Nat
  | _, [] => []
  | k, p :: ps => List.replicate p.length (k + 1) ++ ofGo (k + 1) ps
theorem ofGo_append {α : Type} : ∀ (k : Nat) (ps qs : List (List α)), ofGo k (ps ++ qs) = ofGo k ps ++ ofGo (k + ps.length) qs
  | k, [], qs => by simp [ofGo]
  | k, p :: ps, qs => by rw [List.cons_append, ofGo, ofGo, ofGo_append (k + 1) ps qs, List.append_assoc, List.length_cons, show k + 1 + ps.length = k + (ps.length + 1) by omega]
theorem ofGo_len {α : Type} : ∀ (k : Nat) (ps : List (List α)), (ofGo k ps).length = ps.flatten.length
  | _, [] => rfl
  | k, p :: ps => by rw [ofGo, List.length_append, List.length_replicate, ofGo_len (k + 1) ps, List.flatten_cons, List.length_append]
/-! ### How far the pages have come -/
def PagedAt {α : Type} (sz : α → Nat) (h : Nat) (L : List α) (k : Nat) (P : List (List α)) : Prop :=
  (k = 0 ∧ P = []) ∨ ∃ done cur, P = done ++ [cur] ∧ cur ≠ [] ∧ packs sz h L = packGo sz h done cur (L.drop k)
section
variable {α : Type} {sz : α → Nat} {h : Nat} {L : List α} {k : Nat} {P : List (List α)}
theorem PagedAt.fail (hp : PagedAt sz h L k P) (hk : k < L.length) (hs : h < sz L[k]) : packs sz h L = none := by
  rcases hp with ⟨rfl, rfl⟩ | ⟨done, cur, rfl, hc, e⟩
  · cases L with
    | nil => simp at hk
    | cons x L =>
      simp at hs
      rw [packs, packGo, if_pos hs]
  · rw [e, List.drop_eq_getElem_cons hk, packGo, if_pos hs]
theorem PagedAt.new (hp : PagedAt sz h L k P) (hk : k < L.length) (hs : ¬ h < sz L[k]) (hn : P = [] ∨ ∃ done cur, P = done ++ [cur] ∧ h < sizeB sz cur + sz L[k]) : PagedAt sz h L (k + 1) (P ++ [[L[k]]]) := by
  refine .inr ⟨P, [L[k]], rfl, by simp, ?_⟩
  rcases hp with ⟨rfl, rfl⟩ | ⟨done, cur, rfl, hc, e⟩
  · cases L with
    | nil => simp at hk
    | cons x L =>
      simp at hs
      rw [packs, packGo, if_neg (by omega)]
      simp
  · have hc' : cur.isEmpty = false := by cases cur <;> simp_all
    rcases hn with hn | ⟨done', cur', e2, hn⟩
    · simp at hn
    · have e3 := List.append_inj' e2 rfl
      simp only [List.cons.injEq, and_true] at e3
      obtain ⟨rfl, rfl⟩ := e3
      rw [e, List.drop_eq_getElem_cons hk, packGo, if_neg hs, hc', if_neg (by simp), if_pos hn]
theorem PagedAt.add {done : List (List α)} {cur : List α} (hp : PagedAt sz h L k (done ++ [cur])) (hk : k < L.length) (hs : ¬ h < sz L[k]) (hn : ¬ h < sizeB sz cur + sz L[k]) : PagedAt sz h L (k + 1) (done ++ [cur ++ [L[k]]]) := by
  rcases hp with ⟨_, e⟩ | ⟨done', cur', e2, hc, e⟩
  · simp at e
  · have e3 := List.append_inj' e2 rfl
    simp only [List.cons.injEq, and_true] at e3
    obtain ⟨rfl, rfl⟩ := e3
    have hc' : cur.isEmpty = false := by cases cur <;> simp_all
    exact .inr ⟨done, cur ++ [L[k]], rfl, by simp, by rw [e, List.drop_eq_getElem_cons hk, packGo, if_neg hs, hc', if_neg (by simp), if_neg hn]⟩
theorem PagedAt.done (hp : PagedAt sz h L L.length P) : packs sz h L = some P := by
  rcases hp with ⟨h0, rfl⟩ | ⟨done, cur, rfl, hc, e⟩
  · have : L = [] := List.length_eq_zero_iff.1 h0
    subst this; rfl
  · have hc' : cur.isEmpty = false := by cases cur <;> simp_all
    rw [e, List.drop_length, packGo, hc']; rfl
end
end Go.Proofs.YtbeoijlggphklaaGreatDoor

/- The compact code of the functions, and that it is theirs: written by a program of this claim. -/
namespace Go.Proofs.YtbeoijlggphklaaGreatDoor
open Go.Abs
set_option maxRecDepth 100000
def r_i_Field_text_0 : List CO := [⟨none, (some 1), (.box 4 (.t 0))⟩, ⟨none, (some 2), (.mv (.k (.v (.string (bs [])))))⟩]
def r_i_Field_text_1 : List CO := [⟨none, (some 3), (.faddr 0 (.t 1))⟩, ⟨none, (some 4), (.ld false 1 (.t 3))⟩, ⟨none, (some 5), (.bin .eql .none (.t 4) (.k (.v (.int .i64 (0)))))⟩]
def r_i_Field_text_2 : List CO := [⟨none, (some 6), (.faddr 2 (.t 1))⟩, ⟨none, (some 7), (.ld false 1 (.t 6))⟩, ⟨none, (some 8), (.call n_i_tincture [(.t 7)])⟩, ⟨none, (some 2), (.mv (.t 8))⟩]
def r_i_Field_text_3 : List CO := [⟨none, (some 9), (.call n_i_divisionWords [])⟩, ⟨none, (some 10), (.faddr 0 (.t 1))⟩, ⟨none, (some 11), (.ld false 1 (.t 10))⟩, ⟨none, (some 12), (.bin .sub .none (.t 11) (.k (.v (.int .i64 (1)))))⟩, ⟨none, (some 13), (.iaddr 1 (.t 9) (.t 12))⟩, ⟨none, (some 14), (.ld false 1 (.t 13))⟩, ⟨none, (some 15), (.faddr 1 (.t 1))⟩, ⟨none, (some 16), (.ld false 1 (.t 15))⟩, ⟨none, (some 17), (.call n_i_withLine [(.t 14), (.t 16)])⟩, ⟨none, (some 18), (.bin .add .none (.t 17) (.k (.v (.string (bs [32])))))⟩, ⟨none, (some 19), (.faddr 2 (.t 1))⟩, ⟨none, (some 20), (.ld false 1 (.t 19))⟩, ⟨none, (some 21), (.call n_i_tincture [(.t 20)])⟩, ⟨none, (some 22), (.bin .add .none (.t 18) (.t 21))⟩, ⟨none, (some 23), (.bin .add .none (.t 22) (.k (.v (.string (bs [32, 97, 110, 100, 32])))))⟩, ⟨none, (some 24), (.faddr 3 (.t 1))⟩, ⟨none, (some 25), (.ld false 1 (.t 24))⟩, ⟨none, (some 26), (.call n_i_tincture [(.t 25)])⟩, ⟨none, (some 27), (.bin .add .none (.t 23) (.t 26))⟩, ⟨none, (some 2), (.mv (.t 27))⟩]
def p_i_Field_text_3 : List (List Nat) := [[], [], [1], [1, 2], [0, 1, 2, 3], [0, 1, 2, 3, 4], [], [6], [0, 1, 2, 3, 4, 5, 6, 7], [0, 1, 2, 3, 4, 5, 6, 7, 8], [], [10], [0, 1, 2, 3, 4, 5, 6, 7, 8, 10, 11], [0, 1, 2, 3, 4, 5, 6, 7, 8, 9, 10, 11, 12], [0, 1, 2, 3, 4, 5, 6, 7, 8, 9, 10, 11, 12, 13], [], [15], [0, 1, 2, 3, 4, 5, 6, 7, 8, 10, 11, 12, 15, 16], [0, 1, 2, 3, 4, 5, 6, 7, 8, 9, 10, 11, 12, 13, 14, 15, 16, 17], [0, 1, 2, 3, 4, 5, 6, 7, 8, 9, 10, 11, 12, 13, 14, 15, 16, 17, 18]]
/-- (loop.example/g00884/impl.Field).text -/
def c_i_Field_text : C := (.seq (.reg r_i_Field_text_0 [1]) (.seq (.seq (.reg r_i_Field_text_1 [1, 5]) (.cond (.t 5) (.seq (.reg r_i_Field_text_2 [2]) .ret) .skip)) (.seq (.regD r_i_Field_text_3 p_i_Field_text_3 [2]) .ret)))
def k_i_Field_text : Nat → List Nat
  | 0 => [1]
  | 1 => [1, 5]
  | 2 => [2]
  | 3 => [2]
  | _ => []
theorem fn_i_Field_text : FnC Tryz.prog n_i_Field_text c_i_Field_text [(.tmp 2)] 28 :=
  ⟨Tryz.f190, _, k_i_Field_text, Tryz.func190, rfl, by kernel_rfl, by kernel_rfl, by kernel_rfl, rfl⟩
def r_i_Group_text_0 : List CO := [⟨none, (some 1), (.box 4 (.t 0))⟩, ⟨none, (some 2), (.mv (.k (.v (.string (bs [])))))⟩]
def r_i_Group_text_1 : List CO := [⟨none, (some 4), (.faddr 0 (.t 1))⟩, ⟨none, (some 5), (.ld false 1 (.t 4))⟩, ⟨none, (some 6), (.faddr 1 (.t 1))⟩, ⟨none, (some 7), (.ld false 1 (.t 6))⟩, ⟨none, (some 8), (.call n_i_countWord [(.t 5), (.t 7)])⟩, ⟨none, (some 9), (.bin .add .none (.t 8) (.k (.v (.string (bs [32])))))⟩, ⟨none, (some 10), (.faddr 1 (.t 1))⟩, ⟨none, (some 11), (.ld false 1 (.t 10))⟩, ⟨none, (some 12), (.faddr 0 (.t 1))⟩, ⟨none, (some 13), (.ld false 1 (.t 12))⟩, ⟨none, (some 14), (.call n_i_kindWord [(.t 11), (.t 13)])⟩, ⟨none, (some 15), (.bin .add .none (.t 9) (.t 14))⟩, ⟨none, (some 3), (.mv (.t 15))⟩]
def p_i_Group_text_1 : List (List Nat) := [[], [0], [], [2], [0, 1, 2, 3], [0, 1, 2, 3, 4], [], [6], [], [8], [0, 1, 2, 3, 4, 6, 7, 8, 9], [0, 1, 2, 3, 4, 5, 6, 7, 8, 9, 10], [0, 1, 2, 3, 4, 5, 6, 7, 8, 9, 10, 11]]
def r_i_Group_text_2 : List CO := [⟨none, (some 16), (.faddr 2 (.t 1))⟩, ⟨none, (some 17), (.ld false 1 (.t 16))⟩, ⟨none, (some 18), (.bin .gtr .none (.t 17) (.k (.v (.int .i64 (0)))))⟩]
def r_i_Group_text_3 : List CO := [⟨none, (some 19), (.mv (.t 3))⟩, ⟨none, (some 20), (.faddr 1 (.t 1))⟩, ⟨none, (some 21), (.ld false 1 (.t 20))⟩, ⟨none, (some 22), (.call n_i_attitudes [(.t 21)])⟩, ⟨none, (some 23), (.faddr 2 (.t 1))⟩, ⟨none, (some 24), (.ld false 1 (.t 23))⟩, ⟨none, (some 25), (.bin .sub .none (.t 24) (.k (.v (.int .i64 (1)))))⟩, ⟨none, (some 26), (.iaddr 1 (.t 22) (.t 25))⟩, ⟨none, (some 27), (.ld false 1 (.t 26))⟩, ⟨none, (some 28), (.bin .add .none (.k (.v (.string (bs [32])))) (.t 27))⟩, ⟨none, (some 29), (.bin .add .none (.t 19) (.t 28))⟩, ⟨none, (some 3), (.mv (.t 29))⟩]
def p_i_Group_text_3 : List (List Nat) := [[], [], [1], [1, 2], [], [4], [4, 5], [1, 2, 3, 4, 5, 6], [1, 2, 3, 4, 5, 6, 7], [1, 2, 3, 4, 5, 6, 7, 8], [0, 1, 2, 3, 4, 5, 6, 7, 8, 9], [0, 1, 2, 3, 4, 5, 6, 7, 8, 9, 10]]
def r_i_Group_text_4 : List CO := [⟨none, (some 30), (.mv (.t 3))⟩, ⟨none, (some 31), (.bin .add .none (.t 30) (.k (.v (.string (bs [32])))))⟩, ⟨none, (some 32), (.faddr 3 (.t 1))⟩, ⟨none, (some 33), (.ld false 1 (.t 32))⟩, ⟨none, (some 34), (.call n_i_tincture [(.t 33)])⟩, ⟨none, (some 35), (.bin .add .none (.t 31) (.t 34))⟩, ⟨none, (some 2), (.mv (.t 35))⟩]
/-- (loop.example/g00884/impl.Group).text -/
def c_i_Group_text : C := (.seq (.reg r_i_Group_text_0 [1]) (.seq (.regD r_i_Group_text_1 p_i_Group_text_1 [1, 3]) (.seq (.seq (.reg r_i_Group_text_2 [1, 3, 18]) (.cond (.t 18) (.regD r_i_Group_text_3 p_i_Group_text_3 [1, 3]) .skip)) (.seq (.reg r_i_Group_text_4 [2]) .ret))))
def k_i_Group_text : Nat → List Nat
  | 0 => [1]
  | 1 => [1, 3]
  | 2 => [1, 3, 18]
  | 3 => [1, 3]
  | 4 => [2]
  | _ => []
theorem fn_i_Group_text : FnC Tryz.prog n_i_Group_text c_i_Group_text [(.tmp 2)] 36 :=
  ⟨Tryz.f193, _, k_i_Group_text, Tryz.func193, rfl, by kernel_rfl, by kernel_rfl, by kernel_rfl, rfl⟩
def r_s_l6Text_0 : List CO := [⟨none, (some 1), (.box 15 (.t 0))⟩, ⟨none, (some 2), (.mv (.k (.v (.string (bs [])))))⟩]
def r_s_l6Text_1 : List CO := [⟨none, (some 4), (.faddr 0 (.t 1))⟩, ⟨none, (some 5), (.ld true 4 (.t 4))⟩, ⟨none, (some 6), (.call n_s_l3Text [(.t 5)])⟩, ⟨none, (some 3), (.mv (.t 6))⟩]
def r_s_l6Text_2 : List CO := [⟨none, (some 7), (.faddr 4 (.t 1))⟩, ⟨none, (some 8), (.ld false 1 (.t 7))⟩, ⟨none, (some 9), (.bin .gtr .none (.t 8) (.k (.v (.int .i64 (0)))))⟩]
def r_s_l6Text_3 : List CO := [⟨none, (some 10), (.mv (.t 3))⟩, ⟨none, (some 11), (.bin .add .none (.t 10) (.k (.v (.string (bs [44, 32])))))⟩, ⟨none, (some 12), (.faddr 4 (.t 1))⟩, ⟨none, (some 13), (.ld false 1 (.t 12))⟩, ⟨none, (some 14), (.faddr 5 (.t 1))⟩, ⟨none, (some 15), (.ld false 1 (.t 14))⟩, ⟨none, (some 16), (.call n_s_l6Ordinary [(.t 13), (.t 15)])⟩, ⟨none, (some 17), (.bin .add .none (.t 11) (.t 16))⟩, ⟨none, (some 18), (.bin .add .none (.t 17) (.k (.v (.string (bs [32])))))⟩, ⟨none, (some 19), (.faddr 6 (.t 1))⟩, ⟨none, (some 20), (.ld false 1 (.t 19))⟩, ⟨none, (some 21), (.call n_s_l2Word [(.t 20)])⟩, ⟨none, (some 22), (.bin .add .none (.t 18) (.t 21))⟩, ⟨none, (some 3), (.mv (.t 22))⟩]
def p_s_l6Text_3 : List (List Nat) := [[], [0], [], [2], [], [4], [2, 3, 4, 5], [0, 1, 2, 3, 4, 5, 6], [0, 1, 2, 3, 4, 5, 6, 7], [], [9], [2, 3, 4, 5, 6, 9, 10], [0, 1, 2, 3, 4, 5, 6, 7, 8, 9, 10, 11], [0, 1, 2, 3, 4, 5, 6, 7, 8, 9, 10, 11, 12]]
def r_s_l6Text_4 : List CO := [⟨none, (some 23), (.faddr 7 (.t 1))⟩, ⟨none, (some 24), (.ld true 4 (.t 23))⟩, ⟨none, (some 25), (.call n_s_l4None [(.t 24)])⟩, ⟨none, (some 26), (.un .not (.t 25))⟩]
def r_s_l6Text_5 : List CO := [⟨none, (some 27), (.mv (.t 3))⟩, ⟨none, (some 28), (.bin .add .none (.t 27) (.k (.v (.string (bs [32, 99, 104, 97, 114, 103, 101, 100, 32, 119, 105, 116, 104, 32])))))⟩, ⟨none, (some 29), (.faddr 7 (.t 1))⟩, ⟨none, (some 30), (.ld true 4 (.t 29))⟩, ⟨none, (some 31), (.call n_s_l4Text [(.t 30)])⟩, ⟨none, (some 32), (.bin .add .none (.t 28) (.t 31))⟩, ⟨none, (some 3), (.mv (.t 32))⟩]
def r_s_l6Text_6 : List CO := [⟨none, (some 33), (.faddr 11 (.t 1))⟩, ⟨none, (some 34), (.ld true 4 (.t 33))⟩, ⟨none, (some 35), (.call n_s_l4None [(.t 34)])⟩, ⟨none, (some 36), (.un .not (.t 35))⟩]
def r_s_l6Text_7 : List CO := [⟨none, (some 37), (.mv (.t 3))⟩, ⟨none, (some 38), (.faddr 4 (.t 1))⟩, ⟨none, (some 39), (.ld false 1 (.t 38))⟩, ⟨none, (some 40), (.call n_s_l6Join [(.t 39)])⟩, ⟨none, (some 41), (.bin .add .none (.t 37) (.t 40))⟩, ⟨none, (some 42), (.faddr 11 (.t 1))⟩, ⟨none, (some 43), (.ld true 4 (.t 42))⟩, ⟨none, (some 44), (.call n_s_l4Text [(.t 43)])⟩, ⟨none, (some 45), (.bin .add .none (.t 41) (.t 44))⟩, ⟨none, (some 3), (.mv (.t 45))⟩]
def p_s_l6Text_7 : List (List Nat) := [[], [], [1], [1, 2], [0, 1, 2, 3], [], [5], [1, 2, 3, 5, 6], [0, 1, 2, 3, 4, 5, 6, 7], [0, 1, 2, 3, 4, 5, 6, 7, 8]]
def r_s_l6Text_8 : List CO := [⟨none, (some 46), (.mv (.t 3))⟩, ⟨none, (some 2), (.mv (.t 46))⟩]
/-- loop.example/g00884/spec.l6Text -/
def c_s_l6Text : C := (.seq (.reg r_s_l6Text_0 [1]) (.seq (.reg r_s_l6Text_1 [1, 3]) (.seq (.seq (.reg r_s_l6Text_2 [1, 3, 9]) (.cond (.t 9) (.regD r_s_l6Text_3 p_s_l6Text_3 [1, 3]) .skip)) (.seq (.seq (.wk (.reg r_s_l6Text_4 [1, 3, 26])) (.cond (.t 26) (.reg r_s_l6Text_5 [1, 3]) .skip)) (.seq (.seq (.wk (.reg r_s_l6Text_6 [1, 3, 36])) (.cond (.t 36) (.regD r_s_l6Text_7 p_s_l6Text_7 [3]) .skip)) (.seq (.wk (.reg r_s_l6Text_8 [2])) .ret))))))
def k_s_l6Text : Nat → List Nat
  | 0 => [1]
  | 1 => [1, 3]
  | 2 => [1, 3, 9]
  | 3 => [1, 3]
  | 4 => [999999, 1, 3, 26]
  | 5 => [1, 3]
  | 6 => [999999, 1, 3, 36]
  | 7 => [3]
  | 8 => [999999, 2]
  | _ => []
theorem fn_s_l6Text : FnC Tryz.prog n_s_l6Text c_s_l6Text [(.tmp 2)] 47 :=
  ⟨Tryz.f93, _, k_s_l6Text, Tryz.func93, rfl, by kernel_rfl, by kernel_rfl, by kernel_rfl, rfl⟩
end Go.Proofs.YtbeoijlggphklaaGreatDoor

/- The compact code of the functions, and that it is theirs: written by a program of this claim. -/
namespace Go.Proofs.YtbeoijlggphklaaGreatDoor
open Go.Abs
set_option maxRecDepth 100000
def r_s_l2Word_0 : List CO := [⟨none, (some 2), (.mv (.k (.v (.string (bs [])))))⟩]
def r_s_l2Word_1 : List CO := [⟨none, (some 3), (.bslice 1 (.v (.string (bs []))) 9 [(0, (.k (.v (.string (bs [103, 111, 108, 100]))))), (1, (.k (.v (.string (bs [115, 105, 108, 118, 101, 114]))))), (2, (.k (.v (.string (bs [114, 101, 100]))))), (3, (.k (.v (.string (bs [98, 108, 117, 101]))))), (4, (.k (.v (.string (bs [98, 108, 97, 99, 107]))))), (5, (.k (.v (.string (bs [103, 114, 101, 101, 110]))))), (6, (.k (.v (.string (bs [112, 117, 114, 112, 108, 101]))))), (7, (.k (.v (.string (bs [101, 114, 109, 105, 110, 101]))))), (8, (.k (.v (.string (bs [118, 97, 105, 114])))))])⟩, ⟨none, (some 4), (.mv (.t 0))⟩, ⟨none, (some 5), (.bin .sub .none (.t 4) (.k (.v (.int .i64 (1)))))⟩, ⟨none, (some 6), (.iaddr 1 (.t 3) (.t 5))⟩, ⟨none, (some 7), (.ld false 1 (.t 6))⟩, ⟨none, (some 2), (.mv (.t 7))⟩]
/-- loop.example/g00884/spec.l2Word -/
def c_s_l2Word : C := (.seq (.reg r_s_l2Word_0 [0]) (.seq (.reg r_s_l2Word_1 [2]) .ret))
def k_s_l2Word : Nat → List Nat
  | 0 => [0]
  | 1 => [2]
  | _ => []
theorem fn_s_l2Word : FnC Tryz.prog n_s_l2Word c_s_l2Word [(.tmp 2)] 8 :=
  ⟨Tryz.f136, _, k_s_l2Word, Tryz.func136, rfl, by kernel_rfl, by kernel_rfl, by kernel_rfl, rfl⟩
def r_s_l3LineWord_0 : List CO := [⟨none, (some 2), (.mv (.k (.v (.string (bs [])))))⟩]
def r_s_l3LineWord_1 : List CO := [⟨none, (some 3), (.bslice 1 (.v (.string (bs []))) 5 [(0, (.k (.v (.string (bs []))))), (1, (.k (.v (.string (bs [101, 110, 103, 114, 97, 105, 108, 101, 100]))))), (2, (.k (.v (.string (bs [119, 97, 118, 121]))))), (3, (.k (.v (.string (bs [101, 109, 98, 97, 116, 116, 108, 101, 100]))))), (4, (.k (.v (.string (bs [105, 110, 100, 101, 110, 116, 101, 100])))))])⟩, ⟨none, (some 4), (.mv (.t 0))⟩, ⟨none, (some 5), (.iaddr 1 (.t 3) (.t 4))⟩, ⟨none, (some 6), (.ld false 1 (.t 5))⟩, ⟨none, (some 2), (.mv (.t 6))⟩]
/-- loop.example/g00884/spec.l3LineWord -/
def c_s_l3LineWord : C := (.seq (.reg r_s_l3LineWord_0 [0]) (.seq (.reg r_s_l3LineWord_1 [2]) .ret))
def k_s_l3LineWord : Nat → List Nat
  | 0 => [0]
  | 1 => [2]
  | _ => []
theorem fn_s_l3LineWord : FnC Tryz.prog n_s_l3LineWord c_s_l3LineWord [(.tmp 2)] 7 :=
  ⟨Tryz.f181, _, k_s_l3LineWord, Tryz.func181, rfl, by kernel_rfl, by kernel_rfl, by kernel_rfl, rfl⟩
def r_s_l3Text_0 : List CO := [⟨none, (some 1), (.box 4 (.t 0))⟩, ⟨none, (some 2), (.mv (.k (.v (.string (bs [])))))⟩]
def r_s_l3Text_1 : List CO := [⟨none, (some 4), (.faddr 0 (.t 1))⟩, ⟨none, (some 5), (.ld false 1 (.t 4))⟩, ⟨none, (some 6), (.bin .eql .none (.t 5) (.k (.v (.int .i64 (0)))))⟩]
def r_s_l3Text_2 : List CO := [⟨none, (some 7), (.faddr 2 (.t 1))⟩, ⟨none, (some 8), (.ld false 1 (.t 7))⟩, ⟨none, (some 9), (.call n_s_l2Word [(.t 8)])⟩, ⟨none, (some 2), (.mv (.t 9))⟩]
def r_s_l3Text_3 : List CO := [⟨none, (some 10), (.bslice 1 (.v (.string (bs []))) 8 [(0, (.k (.v (.string (bs []))))), (1, (.k (.v (.string (bs [112, 101, 114, 32, 112, 97, 108, 101]))))), (2, (.k (.v (.string (bs [112, 101, 114, 32, 102, 101, 115, 115]))))), (3, (.k (.v (.string (bs [112, 101, 114, 32, 98, 101, 110, 100]))))), (4, (.k (.v (.string (bs [113, 117, 97, 114, 116, 101, 114, 108, 121]))))), (5, (.k (.v (.string (bs [112, 101, 114, 32, 115, 97, 108, 116, 105, 114, 101]))))), (6, (.k (.v (.string (bs [112, 97, 108, 121]))))), (7, (.k (.v (.string (bs [98, 97, 114, 114, 121])))))])⟩, ⟨none, (some 11), (.faddr 0 (.t 1))⟩, ⟨none, (some 12), (.ld false 1 (.t 11))⟩, ⟨none, (some 13), (.iaddr 1 (.t 10) (.t 12))⟩, ⟨none, (some 14), (.ld false 1 (.t 13))⟩, ⟨none, (some 3), (.mv (.t 14))⟩]
def r_s_l3Text_4 : List CO := [⟨none, (some 15), (.faddr 1 (.t 1))⟩, ⟨none, (some 16), (.ld false 1 (.t 15))⟩, ⟨none, (some 17), (.bin .gtr .none (.t 16) (.k (.v (.int .i64 (0)))))⟩]
def r_s_l3Text_5 : List CO := [⟨none, (some 18), (.mv (.t 3))⟩, ⟨none, (some 19), (.bin .add .none (.t 18) (.k (.v (.string (bs [32])))))⟩, ⟨none, (some 20), (.faddr 1 (.t 1))⟩, ⟨none, (some 21), (.ld false 1 (.t 20))⟩, ⟨none, (some 22), (.call n_s_l3LineWord [(.t 21)])⟩, ⟨none, (some 23), (.bin .add .none (.t 19) (.t 22))⟩, ⟨none, (some 3), (.mv (.t 23))⟩]
def r_s_l3Text_6 : List CO := [⟨none, (some 24), (.mv (.t 3))⟩, ⟨none, (some 25), (.bin .add .none (.t 24) (.k (.v (.string (bs [32])))))⟩, ⟨none, (some 26), (.faddr 2 (.t 1))⟩, ⟨none, (some 27), (.ld false 1 (.t 26))⟩, ⟨none, (some 28), (.call n_s_l2Word [(.t 27)])⟩, ⟨none, (some 29), (.bin .add .none (.t 25) (.t 28))⟩, ⟨none, (some 30), (.bin .add .none (.t 29) (.k (.v (.string (bs [32, 97, 110, 100, 32])))))⟩, ⟨none, (some 31), (.faddr 3 (.t 1))⟩, ⟨none, (some 32), (.ld false 1 (.t 31))⟩, ⟨none, (some 33), (.call n_s_l2Word [(.t 32)])⟩, ⟨none, (some 34), (.bin .add .none (.t 30) (.t 33))⟩, ⟨none, (some 2), (.mv (.t 34))⟩]
def p_s_l3Text_6 : List (List Nat) := [[], [0], [], [2], [2, 3], [0, 1, 2, 3, 4], [0, 1, 2, 3, 4, 5], [], [7], [2, 3, 4, 7, 8], [0, 1, 2, 3, 4, 5, 6, 7, 8, 9], [0, 1, 2, 3, 4, 5, 6, 7, 8, 9, 10]]
/-- loop.example/g00884/spec.l3Text -/
def c_s_l3Text : C := (.seq (.reg r_s_l3Text_0 [1]) (.seq (.seq (.reg r_s_l3Text_1 [1, 6]) (.cond (.t 6) (.seq (.reg r_s_l3Text_2 [2]) .ret) .skip)) (.seq (.reg r_s_l3Text_3 [1, 3]) (.seq (.seq (.reg r_s_l3Text_4 [1, 3, 17]) (.cond (.t 17) (.reg r_s_l3Text_5 [1, 3]) .skip)) (.seq (.regD r_s_l3Text_6 p_s_l3Text_6 [2]) .ret)))))
def k_s_l3Text : Nat → List Nat
  | 0 => [1]
  | 1 => [1, 6]
  | 2 => [2]
  | 3 => [1, 3]
  | 4 => [1, 3, 17]
  | 5 => [1, 3]
  | 6 => [2]
  | _ => []
theorem fn_s_l3Text : FnC Tryz.prog n_s_l3Text c_s_l3Text [(.tmp 2)] 35 :=
  ⟨Tryz.f134, _, k_s_l3Text, Tryz.func134, rfl, by kernel_rfl, by kernel_rfl, by kernel_rfl, rfl⟩
def r_s_l6Ordinary_0 : List CO := [⟨none, (some 4), (.mv (.k (.v (.string (bs [])))))⟩]
def r_s_l6Ordinary_1 : List CO := [⟨none, (some 6), (.bslice 1 (.v (.string (bs []))) 8 [(0, (.k (.v (.string (bs []))))), (1, (.k (.v (.string (bs [112, 97, 108, 101]))))), (2, (.k (.v (.string (bs [102, 101, 115, 115]))))), (3, (.k (.v (.string (bs [98, 101, 110, 100]))))), (4, (.k (.v (.string (bs [99, 104, 101, 118, 114, 111, 110]))))), (5, (.k (.v (.string (bs [99, 114, 111, 115, 115]))))), (6, (.k (.v (.string (bs [115, 97, 108, 116, 105, 114, 101]))))), (7, (.k (.v (.string (bs [99, 104, 105, 101, 102])))))])⟩, ⟨none, (some 7), (.mv (.t 0))⟩, ⟨none, (some 8), (.iaddr 1 (.t 6) (.t 7))⟩, ⟨none, (some 9), (.ld false 1 (.t 8))⟩, ⟨none, (some 10), (.bin .add .none (.k (.v (.string (bs [97, 32])))) (.t 9))⟩, ⟨none, (some 5), (.mv (.t 10))⟩]
def r_s_l6Ordinary_2 : List CO := [⟨none, (some 11), (.mv (.t 1))⟩, ⟨none, (some 12), (.bin .gtr .none (.t 11) (.k (.v (.int .i64 (0)))))⟩]
def r_s_l6Ordinary_3 : List CO := [⟨none, (some 13), (.mv (.t 5))⟩, ⟨none, (some 14), (.bin .add .none (.t 13) (.k (.v (.string (bs [32])))))⟩, ⟨none, (some 15), (.mv (.t 1))⟩, ⟨none, (some 16), (.call n_s_l3LineWord [(.t 15)])⟩, ⟨none, (some 17), (.bin .add .none (.t 14) (.t 16))⟩, ⟨none, (some 5), (.mv (.t 17))⟩]
def r_s_l6Ordinary_4 : List CO := [⟨none, (some 18), (.mv (.t 5))⟩, ⟨none, (some 4), (.mv (.t 18))⟩]
/-- loop.example/g00884/spec.l6Ordinary -/
def c_s_l6Ordinary : C := (.seq (.reg r_s_l6Ordinary_0 [0, 1]) (.seq (.reg r_s_l6Ordinary_1 [1, 5]) (.seq (.seq (.reg r_s_l6Ordinary_2 [1, 5, 12]) (.cond (.t 12) (.reg r_s_l6Ordinary_3 [5]) .skip)) (.seq (.reg r_s_l6Ordinary_4 [4]) .ret))))
def k_s_l6Ordinary : Nat → List Nat
  | 0 => [0, 1]
  | 1 => [1, 5]
  | 2 => [1, 5, 12]
  | 3 => [5]
  | 4 => [4]
  | _ => []
theorem fn_s_l6Ordinary : FnC Tryz.prog n_s_l6Ordinary c_s_l6Ordinary [(.tmp 4)] 19 :=
  ⟨Tryz.f135, _, k_s_l6Ordinary, Tryz.func135, rfl, by kernel_rfl, by kernel_rfl, by kernel_rfl, rfl⟩
def r_s_l6Join_0 : List CO := [⟨none, (some 2), (.mv (.k (.v (.string (bs [])))))⟩]
def r_s_l6Join_1 : List CO := [⟨none, (some 3), (.mv (.t 0))⟩]
def r_s_l6Join_2 : List CO := [⟨none, (some 5), (.bin .eql .none (.t 3) (.k (.v (.int .i64 (0)))))⟩, ⟨none, (some 4), (.mv (.t 5))⟩]
def r_s_l6Join_3 : List CO := [⟨none, (some 2), (.mv (.k (.v (.string (bs [44, 32])))))⟩]
def r_s_l6Join_4 : List CO := [⟨none, (some 7), (.bin .eql .none (.t 3) (.k (.v (.int .i64 (7)))))⟩, ⟨none, (some 6), (.mv (.t 7))⟩]
def r_s_l6Join_5 : List CO := [⟨none, (some 2), (.mv (.k (.v (.string (bs [32, 97, 98, 111, 118, 101, 32])))))⟩]
def r_s_l6Join_6 : List CO := [⟨none, (some 2), (.mv (.k (.v (.string (bs [32, 98, 101, 116, 119, 101, 101, 110, 32])))))⟩]
/-- loop.example/g00884/spec.l6Join -/
def c_s_l6Join : C := (.seq (.reg r_s_l6Join_0 [0]) (.seq (.seq (.reg r_s_l6Join_1 [3]) (.block 0 (.seq (.reg r_s_l6Join_2 [3, 4]) (.cond (.t 4) (.seq (.reg r_s_l6Join_3 [2]) .ret) (.seq (.reg r_s_l6Join_4 [6]) (.cond (.t 6) (.seq (.reg r_s_l6Join_5 [2]) .ret) .skip)))))) (.seq (.reg r_s_l6Join_6 [2]) .ret)))
def k_s_l6Join : Nat → List Nat
  | 0 => [0]
  | 1 => [3]
  | 2 => [3, 4]
  | 3 => [2]
  | 4 => [6]
  | 5 => [2]
  | 6 => [2]
  | _ => []
theorem fn_s_l6Join : FnC Tryz.prog n_s_l6Join c_s_l6Join [(.tmp 2)] 8 :=
  ⟨Tryz.f139, _, k_s_l6Join, Tryz.func139, rfl, by kernel_rfl, by kernel_rfl, by kernel_rfl, rfl⟩
def r_s_l4Attitudes_0 : List CO := [⟨none, (some 2), (.mv (.k (.v (.slice none 0 0))))⟩]
def r_s_l4Attitudes_1 : List CO := [⟨none, (some 3), (.mv (.t 0))⟩]
def r_s_l4Attitudes_2 : List CO := [⟨none, (some 5), (.bin .eql .none (.t 3) (.k (.v (.int .i64 (1)))))⟩, ⟨none, (some 4), (.mv (.t 5))⟩]
def r_s_l4Attitudes_3 : List CO := [⟨none, (some 6), (.bslice 1 (.v (.string (bs []))) 2 [(0, (.k (.v (.string (bs [114, 97, 109, 112, 97, 110, 116]))))), (1, (.k (.v (.string (bs [112, 97, 115, 115, 97, 110, 116])))))])⟩, ⟨none, (some 2), (.mv (.t 6))⟩]
def r_s_l4Attitudes_4 : List CO := [⟨none, (some 8), (.bin .eql .none (.t 3) (.k (.v (.int .i64 (2)))))⟩, ⟨none, (some 7), (.mv (.t 8))⟩]
def r_s_l4Attitudes_5 : List CO := [⟨none, (some 9), (.bslice 1 (.v (.string (bs []))) 2 [(0, (.k (.v (.string (bs [100, 105, 115, 112, 108, 97, 121, 101, 100]))))), (1, (.k (.v (.string (bs [114, 105, 115, 105, 110, 103])))))])⟩, ⟨none, (some 2), (.mv (.t 9))⟩]
def r_s_l4Attitudes_6 : List CO := [⟨none, (some 11), (.bin .eql .none (.t 3) (.k (.v (.int .i64 (3)))))⟩, ⟨none, (some 10), (.mv (.t 11))⟩]
def r_s_l4Attitudes_7 : List CO := [⟨none, (some 12), (.bslice 1 (.v (.string (bs []))) 2 [(0, (.k (.v (.string (bs [115, 119, 105, 109, 109, 105, 110, 103]))))), (1, (.k (.v (.string (bs [117, 112, 114, 105, 103, 104, 116])))))])⟩, ⟨none, (some 2), (.mv (.t 12))⟩]
def r_s_l4Attitudes_8 : List CO := [⟨none, (some 13), (.bslice 1 (.v (.string (bs []))) 0 [])⟩, ⟨none, (some 2), (.mv (.t 13))⟩]
/-- loop.example/g00884/spec.l4Attitudes -/
def c_s_l4Attitudes : C := (.seq (.reg r_s_l4Attitudes_0 [0]) (.seq (.seq (.reg r_s_l4Attitudes_1 [3]) (.block 0 (.seq (.reg r_s_l4Attitudes_2 [3, 4]) (.cond (.t 4) (.seq (.reg r_s_l4Attitudes_3 [2]) .ret) (.seq (.reg r_s_l4Attitudes_4 [3, 7]) (.cond (.t 7) (.seq (.reg r_s_l4Attitudes_5 [2]) .ret) (.seq (.reg r_s_l4Attitudes_6 [10]) (.cond (.t 10) (.seq (.reg r_s_l4Attitudes_7 [2]) .ret) .skip)))))))) (.seq (.reg r_s_l4Attitudes_8 [2]) .ret)))
def k_s_l4Attitudes : Nat → List Nat
  | 0 => [0]
  | 1 => [3]
  | 2 => [3, 4]
  | 3 => [2]
  | 4 => [3, 7]
  | 5 => [2]
  | 6 => [10]
  | 7 => [2]
  | 8 => [2]
  | _ => []
theorem fn_s_l4Attitudes : FnC Tryz.prog n_s_l4Attitudes c_s_l4Attitudes [(.tmp 2)] 14 :=
  ⟨Tryz.f218, _, k_s_l4Attitudes, Tryz.func218, rfl, by kernel_rfl, by kernel_rfl, by kernel_rfl, rfl⟩
def r_s_l4Word_0 : List CO := [⟨none, (some 4), (.mv (.k (.v (.string (bs [])))))⟩]
def r_s_l4Word_1 : List CO := [⟨none, (some 6), (.bslice 1 (.v (.string (bs []))) 8 [(0, (.k (.v (.string (bs [108, 105, 111, 110]))))), (1, (.k (.v (.string (bs [101, 97, 103, 108, 101]))))), (2, (.k (.v (.string (bs [102, 105, 115, 104]))))), (3, (.k (.v (.string (bs [114, 111, 115, 101]))))), (4, (.k (.v (.string (bs [115, 116, 97, 114]))))), (5, (.k (.v (.string (bs [116, 111, 119, 101, 114]))))), (6, (.k (.v (.string (bs [107, 101, 121]))))), (7, (.k (.v (.string (bs [115, 119, 111, 114, 100])))))])⟩, ⟨none, (some 7), (.mv (.t 0))⟩, ⟨none, (some 8), (.bin .sub .none (.t 7) (.k (.v (.int .i64 (1)))))⟩, ⟨none, (some 9), (.iaddr 1 (.t 6) (.t 8))⟩, ⟨none, (some 10), (.ld false 1 (.t 9))⟩, ⟨none, (some 5), (.mv (.t 10))⟩]
def r_s_l4Word_2 : List CO := [⟨none, (some 11), (.mv (.t 1))⟩, ⟨none, (some 12), (.bin .gtr .none (.t 11) (.k (.v (.int .i64 (1)))))⟩, ⟨none, (some 13), (.mv (.t 12))⟩, ⟨(some (13, true)), (some 14), (.mv (.t 0))⟩, ⟨(some (13, true)), (some 15), (.bin .neq .none (.t 14) (.k (.v (.int .i64 (3)))))⟩, ⟨none, (some 16), (.pick (.t 13) (.t 15) (.k (.v (.bool false))))⟩]
def r_s_l4Word_3 : List CO := [⟨none, (some 17), (.mv (.t 5))⟩, ⟨none, (some 18), (.bin .add .none (.t 17) (.k (.v (.string (bs [115])))))⟩, ⟨none, (some 5), (.mv (.t 18))⟩]
def r_s_l4Word_4 : List CO := [⟨none, (some 19), (.mv (.t 5))⟩, ⟨none, (some 4), (.mv (.t 19))⟩]
/-- loop.example/g00884/spec.l4Word -/
def c_s_l4Word : C := (.seq (.reg r_s_l4Word_0 [0, 1]) (.seq (.reg r_s_l4Word_1 [0, 1, 5]) (.seq (.seq (.reg r_s_l4Word_2 [5, 16]) (.cond (.t 16) (.reg r_s_l4Word_3 [5]) .skip)) (.seq (.reg r_s_l4Word_4 [4]) .ret))))
def k_s_l4Word : Nat → List Nat
  | 0 => [0, 1]
  | 1 => [0, 1, 5]
  | 2 => [5, 16]
  | 3 => [5]
  | 4 => [4]
  | _ => []
theorem fn_s_l4Word : FnC Tryz.prog n_s_l4Word c_s_l4Word [(.tmp 4)] 20 :=
  ⟨Tryz.f217, _, k_s_l4Word, Tryz.func217, rfl, by kernel_rfl, by kernel_rfl, by kernel_rfl, rfl⟩
def r_s_l4Bare_0 : List CO := [⟨none, (some 1), (.box 4 (.t 0))⟩, ⟨none, (some 2), (.mv (.k (.v (.string (bs [])))))⟩]
def r_s_l4Bare_1 : List CO := [⟨none, (some 4), (.bslice 1 (.v (.string (bs []))) 6 [(0, (.k (.v (.string (bs [97]))))), (1, (.k (.v (.string (bs [116, 119, 111]))))), (2, (.k (.v (.string (bs [116, 104, 114, 101, 101]))))), (3, (.k (.v (.string (bs [102, 111, 117, 114]))))), (4, (.k (.v (.string (bs [102, 105, 118, 101]))))), (5, (.k (.v (.string (bs [115, 105, 120])))))])⟩, ⟨none, (some 5), (.faddr 0 (.t 1))⟩, ⟨none, (some 6), (.ld false 1 (.t 5))⟩, ⟨none, (some 7), (.bin .sub .none (.t 6) (.k (.v (.int .i64 (1)))))⟩, ⟨none, (some 8), (.iaddr 1 (.t 4) (.t 7))⟩, ⟨none, (some 9), (.ld false 1 (.t 8))⟩, ⟨none, (some 3), (.mv (.t 9))⟩]
def r_s_l4Bare_2 : List CO := [⟨none, (some 10), (.faddr 0 (.t 1))⟩, ⟨none, (some 11), (.ld false 1 (.t 10))⟩, ⟨none, (some 12), (.bin .eql .none (.t 11) (.k (.v (.int .i64 (1)))))⟩, ⟨none, (some 13), (.mv (.t 12))⟩, ⟨(some (13, true)), (some 14), (.faddr 1 (.t 1))⟩, ⟨(some (13, true)), (some 15), (.ld false 1 (.t 14))⟩, ⟨(some (13, true)), (some 16), (.bin .eql .none (.t 15) (.k (.v (.int .i64 (2)))))⟩, ⟨none, (some 17), (.pick (.t 13) (.t 16) (.k (.v (.bool false))))⟩]
def r_s_l4Bare_3 : List CO := [⟨none, (some 3), (.mv (.k (.v (.string (bs [97, 110])))))⟩]
def r_s_l4Bare_4 : List CO := [⟨none, (some 18), (.mv (.t 3))⟩, ⟨none, (some 19), (.bin .add .none (.t 18) (.k (.v (.string (bs [32])))))⟩, ⟨none, (some 20), (.faddr 1 (.t 1))⟩, ⟨none, (some 21), (.ld false 1 (.t 20))⟩, ⟨none, (some 22), (.faddr 0 (.t 1))⟩, ⟨none, (some 23), (.ld false 1 (.t 22))⟩, ⟨none, (some 24), (.call n_s_l4Word [(.t 21), (.t 23)])⟩, ⟨none, (some 25), (.bin .add .none (.t 19) (.t 24))⟩, ⟨none, (some 3), (.mv (.t 25))⟩]
def r_s_l4Bare_5 : List CO := [⟨none, (some 26), (.faddr 2 (.t 1))⟩, ⟨none, (some 27), (.ld false 1 (.t 26))⟩, ⟨none, (some 28), (.bin .gtr .none (.t 27) (.k (.v (.int .i64 (0)))))⟩]
def r_s_l4Bare_6 : List CO := [⟨none, (some 29), (.mv (.t 3))⟩, ⟨none, (some 30), (.bin .add .none (.t 29) (.k (.v (.string (bs [32])))))⟩, ⟨none, (some 31), (.faddr 1 (.t 1))⟩, ⟨none, (some 32), (.ld false 1 (.t 31))⟩, ⟨none, (some 33), (.call n_s_l4Attitudes [(.t 32)])⟩, ⟨none, (some 34), (.faddr 2 (.t 1))⟩, ⟨none, (some 35), (.ld false 1 (.t 34))⟩, ⟨none, (some 36), (.bin .sub .none (.t 35) (.k (.v (.int .i64 (1)))))⟩, ⟨none, (some 37), (.iaddr 1 (.t 33) (.t 36))⟩, ⟨none, (some 38), (.ld false 1 (.t 37))⟩, ⟨none, (some 39), (.bin .add .none (.t 30) (.t 38))⟩, ⟨none, (some 3), (.mv (.t 39))⟩]
def p_s_l4Bare_6 : List (List Nat) := [[], [0], [], [2], [2, 3], [], [5], [5, 6], [2, 3, 4, 5, 6, 7], [2, 3, 4, 5, 6, 7, 8], [0, 1, 2, 3, 4, 5, 6, 7, 8, 9], [0, 1, 2, 3, 4, 5, 6, 7, 8, 9, 10]]
def r_s_l4Bare_7 : List CO := [⟨none, (some 40), (.mv (.t 3))⟩, ⟨none, (some 2), (.mv (.t 40))⟩]
/-- loop.example/g00884/spec.l4Bare -/
def c_s_l4Bare : C := (.seq (.reg r_s_l4Bare_0 [1]) (.seq (.reg r_s_l4Bare_1 [1, 3]) (.seq (.seq (.reg r_s_l4Bare_2 [1, 3, 17]) (.cond (.t 17) (.reg r_s_l4Bare_3 [1, 3]) .skip)) (.seq (.wk (.reg r_s_l4Bare_4 [1, 3])) (.seq (.seq (.reg r_s_l4Bare_5 [1, 3, 28]) (.cond (.t 28) (.regD r_s_l4Bare_6 p_s_l4Bare_6 [3]) .skip)) (.seq (.reg r_s_l4Bare_7 [2]) .ret))))))
def k_s_l4Bare : Nat → List Nat
  | 0 => [1]
  | 1 => [1, 3]
  | 2 => [1, 3, 17]
  | 3 => [1, 3]
  | 4 => [999999, 1, 3]
  | 5 => [1, 3, 28]
  | 6 => [3]
  | 7 => [2]
  | _ => []
theorem fn_s_l4Bare : FnC Tryz.prog n_s_l4Bare c_s_l4Bare [(.tmp 2)] 41 :=
  ⟨Tryz.f182, _, k_s_l4Bare, Tryz.func182, rfl, by kernel_rfl, by kernel_rfl, by kernel_rfl, rfl⟩
def r_s_l4Text_0 : List CO := [⟨none, (some 1), (.box 4 (.t 0))⟩, ⟨none, (some 2), (.mv (.k (.v (.string (bs [])))))⟩]
def r_s_l4Text_1 : List CO := [⟨none, (some 3), (.ld true 4 (.t 1))⟩, ⟨none, (some 4), (.call n_s_l4Bare [(.t 3)])⟩, ⟨none, (some 5), (.bin .add .none (.t 4) (.k (.v (.string (bs [32])))))⟩, ⟨none, (some 6), (.faddr 3 (.t 1))⟩, ⟨none, (some 7), (.ld false 1 (.t 6))⟩, ⟨none, (some 8), (.call n_s_l2Word [(.t 7)])⟩, ⟨none, (some 9), (.bin .add .none (.t 5) (.t 8))⟩, ⟨none, (some 2), (.mv (.t 9))⟩]
def p_s_l4Text_1 : List (List Nat) := [[], [0], [0, 1], [], [3], [0, 1, 3, 4], [0, 1, 2, 3, 4, 5], [0, 1, 2, 3, 4, 5, 6]]
/-- loop.example/g00884/spec.l4Text -/
def c_s_l4Text : C := (.seq (.reg r_s_l4Text_0 [1]) (.seq (.regD r_s_l4Text_1 p_s_l4Text_1 [2]) .ret))
def k_s_l4Text : Nat → List Nat
  | 0 => [1]
  | 1 => [2]
  | _ => []
theorem fn_s_l4Text : FnC Tryz.prog n_s_l4Text c_s_l4Text [(.tmp 2)] 10 :=
  ⟨Tryz.f138, _, k_s_l4Text, Tryz.func138, rfl, by kernel_rfl, by kernel_rfl, by kernel_rfl, rfl⟩
def r_i_tinctureWords_0 : List CO := [⟨none, (some 0), (.mv (.k (.v (.slice none 0 0))))⟩]
def r_i_tinctureWords_1 : List CO := [⟨none, (some 1), (.bslice 1 (.v (.string (bs []))) 9 [(0, (.k (.v (.string (bs [103, 111, 108, 100]))))), (1, (.k (.v (.string (bs [115, 105, 108, 118, 101, 114]))))), (2, (.k (.v (.string (bs [114, 101, 100]))))), (3, (.k (.v (.string (bs [98, 108, 117, 101]))))), (4, (.k (.v (.string (bs [98, 108, 97, 99, 107]))))), (5, (.k (.v (.string (bs [103, 114, 101, 101, 110]))))), (6, (.k (.v (.string (bs [112, 117, 114, 112, 108, 101]))))), (7, (.k (.v (.string (bs [101, 114, 109, 105, 110, 101]))))), (8, (.k (.v (.string (bs [118, 97, 105, 114])))))])⟩, ⟨none, (some 0), (.mv (.t 1))⟩]
/-- loop.example/g00884/impl.tinctureWords -/
def c_i_tinctureWords : C := (.seq (.reg r_i_tinctureWords_0 []) (.seq (.reg r_i_tinctureWords_1 [0]) .ret))
def k_i_tinctureWords : Nat → List Nat
  | 0 => []
  | 1 => [0]
  | _ => []
theorem fn_i_tinctureWords : FnC Tryz.prog n_i_tinctureWords c_i_tinctureWords [(.tmp 0)] 2 :=
  ⟨Tryz.f229, _, k_i_tinctureWords, Tryz.func229, rfl, by kernel_rfl, by kernel_rfl, by kernel_rfl, rfl⟩
def r_i_lineWords_0 : List CO := [⟨none, (some 0), (.mv (.k (.v (.slice none 0 0))))⟩]
def r_i_lineWords_1 : List CO := [⟨none, (some 1), (.bslice 1 (.v (.string (bs []))) 4 [(0, (.k (.v (.string (bs [101, 110, 103, 114, 97, 105, 108, 101, 100]))))), (1, (.k (.v (.string (bs [119, 97, 118, 121]))))), (2, (.k (.v (.string (bs [101, 109, 98, 97, 116, 116, 108, 101, 100]))))), (3, (.k (.v (.string (bs [105, 110, 100, 101, 110, 116, 101, 100])))))])⟩, ⟨none, (some 0), (.mv (.t 1))⟩]
/-- loop.example/g00884/impl.lineWords -/
def c_i_lineWords : C := (.seq (.reg r_i_lineWords_0 []) (.seq (.reg r_i_lineWords_1 [0]) .ret))
def k_i_lineWords : Nat → List Nat
  | 0 => []
  | 1 => [0]
  | _ => []
theorem fn_i_lineWords : FnC Tryz.prog n_i_lineWords c_i_lineWords [(.tmp 0)] 2 :=
  ⟨Tryz.f247, _, k_i_lineWords, Tryz.func247, rfl, by kernel_rfl, by kernel_rfl, by kernel_rfl, rfl⟩
def r_i_divisionWords_0 : List CO := [⟨none, (some 0), (.mv (.k (.v (.slice none 0 0))))⟩]
def r_i_divisionWords_1 : List CO := [⟨none, (some 1), (.bslice 1 (.v (.string (bs []))) 7 [(0, (.k (.v (.string (bs [112, 101, 114, 32, 112, 97, 108, 101]))))), (1, (.k (.v (.string (bs [112, 101, 114, 32, 102, 101, 115, 115]))))), (2, (.k (.v (.string (bs [112, 101, 114, 32, 98, 101, 110, 100]))))), (3, (.k (.v (.string (bs [113, 117, 97, 114, 116, 101, 114, 108, 121]))))), (4, (.k (.v (.string (bs [112, 101, 114, 32, 115, 97, 108, 116, 105, 114, 101]))))), (5, (.k (.v (.string (bs [112, 97, 108, 121]))))), (6, (.k (.v (.string (bs [98, 97, 114, 114, 121])))))])⟩, ⟨none, (some 0), (.mv (.t 1))⟩]
/-- loop.example/g00884/impl.divisionWords -/
def c_i_divisionWords : C := (.seq (.reg r_i_divisionWords_0 []) (.seq (.reg r_i_divisionWords_1 [0]) .ret))
def k_i_divisionWords : Nat → List Nat
  | 0 => []
  | 1 => [0]
  | _ => []
theorem fn_i_divisionWords : FnC Tryz.prog n_i_divisionWords c_i_divisionWords [(.tmp 0)] 2 :=
  ⟨Tryz.f227, _, k_i_divisionWords, Tryz.func227, rfl, by kernel_rfl, by kernel_rfl, by kernel_rfl, rfl⟩
def r_i_ordinaryWords_0 : List CO := [⟨none, (some 0), (.mv (.k (.v (.slice none 0 0))))⟩]
def r_i_ordinaryWords_1 : List CO := [⟨none, (some 1), (.bslice 1 (.v (.string (bs []))) 7 [(0, (.k (.v (.string (bs [112, 97, 108, 101]))))), (1, (.k (.v (.string (bs [102, 101, 115, 115]))))), (2, (.k (.v (.string (bs [98, 101, 110, 100]))))), (3, (.k (.v (.string (bs [99, 104, 101, 118, 114, 111, 110]))))), (4, (.k (.v (.string (bs [99, 114, 111, 115, 115]))))), (5, (.k (.v (.string (bs [115, 97, 108, 116, 105, 114, 101]))))), (6, (.k (.v (.string (bs [99, 104, 105, 101, 102])))))])⟩, ⟨none, (some 0), (.mv (.t 1))⟩]
/-- loop.example/g00884/impl.ordinaryWords -/
def c_i_ordinaryWords : C := (.seq (.reg r_i_ordinaryWords_0 []) (.seq (.reg r_i_ordinaryWords_1 [0]) .ret))
def k_i_ordinaryWords : Nat → List Nat
  | 0 => []
  | 1 => [0]
  | _ => []
theorem fn_i_ordinaryWords : FnC Tryz.prog n_i_ordinaryWords c_i_ordinaryWords [(.tmp 0)] 2 :=
  ⟨Tryz.f228, _, k_i_ordinaryWords, Tryz.func228, rfl, by kernel_rfl, by kernel_rfl, by kernel_rfl, rfl⟩
def r_i_kindWords_0 : List CO := [⟨none, (some 0), (.mv (.k (.v (.slice none 0 0))))⟩]
def r_i_kindWords_1 : List CO := [⟨none, (some 1), (.bslice 1 (.v (.string (bs []))) 8 [(0, (.k (.v (.string (bs [108, 105, 111, 110]))))), (1, (.k (.v (.string (bs [101, 97, 103, 108, 101]))))), (2, (.k (.v (.string (bs [102, 105, 115, 104]))))), (3, (.k (.v (.string (bs [114, 111, 115, 101]))))), (4, (.k (.v (.string (bs [115, 116, 97, 114]))))), (5, (.k (.v (.string (bs [116, 111, 119, 101, 114]))))), (6, (.k (.v (.string (bs [107, 101, 121]))))), (7, (.k (.v (.string (bs [115, 119, 111, 114, 100])))))])⟩, ⟨none, (some 0), (.mv (.t 1))⟩]
/-- loop.example/g00884/impl.kindWords -/
def c_i_kindWords : C := (.seq (.reg r_i_kindWords_0 []) (.seq (.reg r_i_kindWords_1 [0]) .ret))
def k_i_kindWords : Nat → List Nat
  | 0 => []
  | 1 => [0]
  | _ => []
theorem fn_i_kindWords : FnC Tryz.prog n_i_kindWords c_i_kindWords [(.tmp 0)] 2 :=
  ⟨Tryz.f248, _, k_i_kindWords, Tryz.func248, rfl, by kernel_rfl, by kernel_rfl, by kernel_rfl, rfl⟩
def r_i_tincture_0 : List CO := [⟨none, (some 2), (.mv (.k (.v (.string (bs [])))))⟩]
def r_i_tincture_1 : List CO := [⟨none, (some 3), (.call n_i_tinctureWords [])⟩, ⟨none, (some 4), (.mv (.t 0))⟩, ⟨none, (some 5), (.bin .sub .none (.t 4) (.k (.v (.int .i64 (1)))))⟩, ⟨none, (some 6), (.iaddr 1 (.t 3) (.t 5))⟩, ⟨none, (some 7), (.ld false 1 (.t 6))⟩, ⟨none, (some 2), (.mv (.t 7))⟩]
/-- loop.example/g00884/impl.tincture -/
def c_i_tincture : C := (.seq (.reg r_i_tincture_0 [0]) (.seq (.reg r_i_tincture_1 [2]) .ret))
def k_i_tincture : Nat → List Nat
  | 0 => [0]
  | 1 => [2]
  | _ => []
theorem fn_i_tincture : FnC Tryz.prog n_i_tincture c_i_tincture [(.tmp 2)] 8 :=
  ⟨Tryz.f192, _, k_i_tincture, Tryz.func192, rfl, by kernel_rfl, by kernel_rfl, by kernel_rfl, rfl⟩
def r_i_withLine_0 : List CO := [⟨none, (some 4), (.mv (.k (.v (.string (bs [])))))⟩]
def r_i_withLine_1 : List CO := [⟨none, (some 5), (.mv (.t 1))⟩, ⟨none, (some 6), (.bin .eql .none (.t 5) (.k (.v (.int .i64 (0)))))⟩]
def r_i_withLine_2 : List CO := [⟨none, (some 7), (.mv (.t 0))⟩, ⟨none, (some 4), (.mv (.t 7))⟩]
def r_i_withLine_3 : List CO := [⟨none, (some 8), (.mv (.t 0))⟩, ⟨none, (some 9), (.bin .add .none (.t 8) (.k (.v (.string (bs [32])))))⟩, ⟨none, (some 10), (.call n_i_lineWords [])⟩, ⟨none, (some 11), (.mv (.t 1))⟩, ⟨none, (some 12), (.bin .sub .none (.t 11) (.k (.v (.int .i64 (1)))))⟩, ⟨none, (some 13), (.iaddr 1 (.t 10) (.t 12))⟩, ⟨none, (some 14), (.ld false 1 (.t 13))⟩, ⟨none, (some 15), (.bin .add .none (.t 9) (.t 14))⟩, ⟨none, (some 4), (.mv (.t 15))⟩]
/-- loop.example/g00884/impl.withLine -/
def c_i_withLine : C := (.seq (.reg r_i_withLine_0 [0, 1]) (.seq (.seq (.reg r_i_withLine_1 [0, 1, 6]) (.cond (.t 6) (.seq (.reg r_i_withLine_2 [4]) .ret) .skip)) (.seq (.reg r_i_withLine_3 [4]) .ret)))
def k_i_withLine : Nat → List Nat
  | 0 => [0, 1]
  | 1 => [0, 1, 6]
  | 2 => [4]
  | 3 => [4]
  | _ => []
theorem fn_i_withLine : FnC Tryz.prog n_i_withLine c_i_withLine [(.tmp 4)] 16 :=
  ⟨Tryz.f226, _, k_i_withLine, Tryz.func226, rfl, by kernel_rfl, by kernel_rfl, by kernel_rfl, rfl⟩
def r_i_ordinaryStart_0 : List CO := [⟨none, (some 4), (.mv (.k (.v (.string (bs [])))))⟩]
def r_i_ordinaryStart_1 : List CO := [⟨none, (some 5), (.call n_i_ordinaryWords [])⟩, ⟨none, (some 6), (.mv (.t 0))⟩, ⟨none, (some 7), (.bin .sub .none (.t 6) (.k (.v (.int .i64 (1)))))⟩, ⟨none, (some 8), (.iaddr 1 (.t 5) (.t 7))⟩, ⟨none, (some 9), (.ld false 1 (.t 8))⟩, ⟨none, (some 10), (.bin .add .none (.k (.v (.string (bs [97, 32])))) (.t 9))⟩, ⟨none, (some 11), (.mv (.t 1))⟩, ⟨none, (some 12), (.call n_i_withLine [(.t 10), (.t 11)])⟩, ⟨none, (some 4), (.mv (.t 12))⟩]
/-- loop.example/g00884/impl.ordinaryStart -/
def c_i_ordinaryStart : C := (.seq (.reg r_i_ordinaryStart_0 [0, 1]) (.seq (.reg r_i_ordinaryStart_1 [4]) .ret))
def k_i_ordinaryStart : Nat → List Nat
  | 0 => [0, 1]
  | 1 => [4]
  | _ => []
theorem fn_i_ordinaryStart : FnC Tryz.prog n_i_ordinaryStart c_i_ordinaryStart [(.tmp 4)] 13 :=
  ⟨Tryz.f191, _, k_i_ordinaryStart, Tryz.func191, rfl, by kernel_rfl, by kernel_rfl, by kernel_rfl, rfl⟩
def r_i_countWord_0 : List CO := [⟨none, (some 4), (.mv (.k (.v (.string (bs [])))))⟩]
def r_i_countWord_1 : List CO := [⟨none, (some 5), (.mv (.t 0))⟩, ⟨none, (some 6), (.bin .eql .none (.t 5) (.k (.v (.int .i64 (1)))))⟩, ⟨none, (some 7), (.mv (.t 6))⟩, ⟨(some (7, true)), (some 8), (.mv (.t 1))⟩, ⟨(some (7, true)), (some 9), (.bin .eql .none (.t 8) (.k (.v (.int .i64 (2)))))⟩, ⟨none, (some 10), (.pick (.t 7) (.t 9) (.k (.v (.bool false))))⟩]
def r_i_countWord_2 : List CO := [⟨none, (some 4), (.mv (.k (.v (.string (bs [97, 110])))))⟩]
def r_i_countWord_3 : List CO := [⟨none, (some 11), (.bslice 1 (.v (.string (bs []))) 6 [(0, (.k (.v (.string (bs [97]))))), (1, (.k (.v (.string (bs [116, 119, 111]))))), (2, (.k (.v (.string (bs [116, 104, 114, 101, 101]))))), (3, (.k (.v (.string (bs [102, 111, 117, 114]))))), (4, (.k (.v (.string (bs [102, 105, 118, 101]))))), (5, (.k (.v (.string (bs [115, 105, 120])))))])⟩, ⟨none, (some 12), (.mv (.t 0))⟩, ⟨none, (some 13), (.bin .sub .none (.t 12) (.k (.v (.int .i64 (1)))))⟩, ⟨none, (some 14), (.iaddr 1 (.t 11) (.t 13))⟩, ⟨none, (some 15), (.ld false 1 (.t 14))⟩, ⟨none, (some 4), (.mv (.t 15))⟩]
/-- loop.example/g00884/impl.countWord -/
def c_i_countWord : C := (.seq (.reg r_i_countWord_0 [0, 1]) (.seq (.seq (.reg r_i_countWord_1 [0, 10]) (.cond (.t 10) (.seq (.reg r_i_countWord_2 [4]) .ret) .skip)) (.seq (.reg r_i_countWord_3 [4]) .ret)))
def k_i_countWord : Nat → List Nat
  | 0 => [0, 1]
  | 1 => [0, 10]
  | 2 => [4]
  | 3 => [4]
  | _ => []
theorem fn_i_countWord : FnC Tryz.prog n_i_countWord c_i_countWord [(.tmp 4)] 16 :=
  ⟨Tryz.f230, _, k_i_countWord, Tryz.func230, rfl, by kernel_rfl, by kernel_rfl, by kernel_rfl, rfl⟩
def r_i_kindWord_0 : List CO := [⟨none, (some 4), (.mv (.k (.v (.string (bs [])))))⟩]
def r_i_kindWord_1 : List CO := [⟨none, (some 6), (.call n_i_kindWords [])⟩, ⟨none, (some 7), (.mv (.t 0))⟩, ⟨none, (some 8), (.bin .sub .none (.t 7) (.k (.v (.int .i64 (1)))))⟩, ⟨none, (some 9), (.iaddr 1 (.t 6) (.t 8))⟩, ⟨none, (some 10), (.ld false 1 (.t 9))⟩, ⟨none, (some 5), (.mv (.t 10))⟩]
def r_i_kindWord_2 : List CO := [⟨none, (some 11), (.mv (.t 1))⟩, ⟨none, (some 12), (.bin .gtr .none (.t 11) (.k (.v (.int .i64 (1)))))⟩, ⟨none, (some 13), (.mv (.t 12))⟩, ⟨(some (13, true)), (some 14), (.mv (.t 0))⟩, ⟨(some (13, true)), (some 15), (.bin .neq .none (.t 14) (.k (.v (.int .i64 (3)))))⟩, ⟨none, (some 16), (.pick (.t 13) (.t 15) (.k (.v (.bool false))))⟩]
def r_i_kindWord_3 : List CO := [⟨none, (some 17), (.mv (.t 5))⟩, ⟨none, (some 18), (.bin .add .none (.t 17) (.k (.v (.string (bs [115])))))⟩, ⟨none, (some 5), (.mv (.t 18))⟩]
def r_i_kindWord_4 : List CO := [⟨none, (some 19), (.mv (.t 5))⟩, ⟨none, (some 4), (.mv (.t 19))⟩]
/-- loop.example/g00884/impl.kindWord -/
def c_i_kindWord : C := (.seq (.reg r_i_kindWord_0 [0, 1]) (.seq (.reg r_i_kindWord_1 [0, 1, 5]) (.seq (.seq (.reg r_i_kindWord_2 [5, 16]) (.cond (.t 16) (.reg r_i_kindWord_3 [5]) .skip)) (.seq (.reg r_i_kindWord_4 [4]) .ret))))
def k_i_kindWord : Nat → List Nat
  | 0 => [0, 1]
  | 1 => [0, 1, 5]
  | 2 => [5, 16]
  | 3 => [5]
  | 4 => [4]
  | _ => []
theorem fn_i_kindWord : FnC Tryz.prog n_i_kindWord c_i_kindWord [(.tmp 4)] 20 :=
  ⟨Tryz.f231, _, k_i_kindWord, Tryz.func231, rfl, by kernel_rfl, by kernel_rfl, by kernel_rfl, rfl⟩
end Go.Proofs.YtbeoijlggphklaaGreatDoor

/- The compact code of the functions, and that it is theirs: written by a program of this claim. -/
namespace Go.Proofs.YtbeoijlggphklaaGreatDoor
open Go.Abs
set_option maxRecDepth 100000
def r_i_isLine_0 : List CO := [⟨none, (some 2), (.mv (.k (.v (.bool false))))⟩]
def r_i_isLine_1 : List CO := [⟨none, (some 3), (.mv (.t 0))⟩, ⟨none, (some 4), (.call n_i_inside [(.t 3), (.k (.v (.int .i64 (0)))), (.k (.v (.int .i64 (4))))])⟩, ⟨none, (some 2), (.mv (.t 4))⟩]
/-- loop.example/g00884/impl.isLine -/
def c_i_isLine : C := (.seq (.reg r_i_isLine_0 [0]) (.seq (.reg r_i_isLine_1 [2]) .ret))
def k_i_isLine : Nat → List Nat
  | 0 => [0]
  | 1 => [2]
  | _ => []
theorem fn_i_isLine : FnC Tryz.prog n_i_isLine c_i_isLine [(.tmp 2)] 5 :=
  ⟨Tryz.f183, _, k_i_isLine, Tryz.func183, rfl, by kernel_rfl, by kernel_rfl, by kernel_rfl, rfl⟩
def r_i_isKind_0 : List CO := [⟨none, (some 2), (.mv (.k (.v (.bool false))))⟩]
def r_i_isKind_1 : List CO := [⟨none, (some 3), (.mv (.t 0))⟩, ⟨none, (some 4), (.call n_i_inside [(.t 3), (.k (.v (.int .i64 (1)))), (.k (.v (.int .i64 (8))))])⟩, ⟨none, (some 2), (.mv (.t 4))⟩]
/-- loop.example/g00884/impl.isKind -/
def c_i_isKind : C := (.seq (.reg r_i_isKind_0 [0]) (.seq (.reg r_i_isKind_1 [2]) .ret))
def k_i_isKind : Nat → List Nat
  | 0 => [0]
  | 1 => [2]
  | _ => []
theorem fn_i_isKind : FnC Tryz.prog n_i_isKind c_i_isKind [(.tmp 2)] 5 :=
  ⟨Tryz.f219, _, k_i_isKind, Tryz.func219, rfl, by kernel_rfl, by kernel_rfl, by kernel_rfl, rfl⟩
def r_s_l3Line_0 : List CO := [⟨none, (some 2), (.mv (.k (.v (.bool false))))⟩]
def r_s_l3Line_1 : List CO := [⟨none, (some 3), (.mv (.t 0))⟩, ⟨none, (some 4), (.call n_s_l1In [(.t 3), (.k (.v (.int .i64 (0)))), (.k (.v (.int .i64 (4))))])⟩, ⟨none, (some 2), (.mv (.t 4))⟩]
/-- loop.example/g00884/spec.l3Line -/
def c_s_l3Line : C := (.seq (.reg r_s_l3Line_0 [0]) (.seq (.reg r_s_l3Line_1 [2]) .ret))
def k_s_l3Line : Nat → List Nat
  | 0 => [0]
  | 1 => [2]
  | _ => []
theorem fn_s_l3Line : FnC Tryz.prog n_s_l3Line c_s_l3Line [(.tmp 2)] 5 :=
  ⟨Tryz.f177, _, k_s_l3Line, Tryz.func177, rfl, by kernel_rfl, by kernel_rfl, by kernel_rfl, rfl⟩
def r_s_l4Kind_0 : List CO := [⟨none, (some 2), (.mv (.k (.v (.bool false))))⟩]
def r_s_l4Kind_1 : List CO := [⟨none, (some 3), (.mv (.t 0))⟩, ⟨none, (some 4), (.call n_s_l1In [(.t 3), (.k (.v (.int .i64 (1)))), (.k (.v (.int .i64 (8))))])⟩, ⟨none, (some 2), (.mv (.t 4))⟩]
/-- loop.example/g00884/spec.l4Kind -/
def c_s_l4Kind : C := (.seq (.reg r_s_l4Kind_0 [0]) (.seq (.reg r_s_l4Kind_1 [2]) .ret))
def k_s_l4Kind : Nat → List Nat
  | 0 => [0]
  | 1 => [2]
  | _ => []
theorem fn_s_l4Kind : FnC Tryz.prog n_s_l4Kind c_s_l4Kind [(.tmp 2)] 5 :=
  ⟨Tryz.f214, _, k_s_l4Kind, Tryz.func214, rfl, by kernel_rfl, by kernel_rfl, by kernel_rfl, rfl⟩
def r_s_l4Beast_0 : List CO := [⟨none, (some 2), (.mv (.k (.v (.bool false))))⟩]
def r_s_l4Beast_1 : List CO := [⟨none, (some 3), (.mv (.t 0))⟩, ⟨none, (some 4), (.bin .leq .none (.t 3) (.k (.v (.int .i64 (3)))))⟩, ⟨none, (some 2), (.mv (.t 4))⟩]
/-- loop.example/g00884/spec.l4Beast -/
def c_s_l4Beast : C := (.seq (.reg r_s_l4Beast_0 [0]) (.seq (.reg r_s_l4Beast_1 [2]) .ret))
def k_s_l4Beast : Nat → List Nat
  | 0 => [0]
  | 1 => [2]
  | _ => []
theorem fn_s_l4Beast : FnC Tryz.prog n_s_l4Beast c_s_l4Beast [(.tmp 2)] 5 :=
  ⟨Tryz.f205, _, k_s_l4Beast, Tryz.func205, rfl, by kernel_rfl, by kernel_rfl, by kernel_rfl, rfl⟩
def r_s_l4None_0 : List CO := [⟨none, (some 1), (.box 4 (.t 0))⟩, ⟨none, (some 2), (.mv (.k (.v (.bool false))))⟩]
def r_s_l4None_1 : List CO := [⟨none, (some 3), (.ld true 4 (.t 1))⟩, ⟨none, (some 4), (.build (.agg [(.v (.int .i64 (0))), (.v (.int .i64 (0))), (.v (.int .i64 (0))), (.v (.int .i64 (0)))]) [])⟩, ⟨none, (some 5), (.bin .eql (.struct [EK.int, EK.int, EK.int, EK.int]) (.t 3) (.t 4))⟩, ⟨none, (some 2), (.mv (.t 5))⟩]
/-- loop.example/g00884/spec.l4None -/
def c_s_l4None : C := (.seq (.reg r_s_l4None_0 [1]) (.seq (.reg r_s_l4None_1 [2]) .ret))
def k_s_l4None : Nat → List Nat
  | 0 => [1]
  | 1 => [2]
  | _ => []
theorem fn_s_l4None : FnC Tryz.prog n_s_l4None c_s_l4None [(.tmp 2)] 6 :=
  ⟨Tryz.f137, _, k_s_l4None, Tryz.func137, rfl, by kernel_rfl, by kernel_rfl, by kernel_rfl, rfl⟩
def r_i_number_0 : List CO := [⟨none, (some 2), (.mv (.k (.v (.int .i64 (0)))))⟩]
def r_i_number_1 : List CO := [⟨none, (some 3), (.mv (.t 0))⟩]
def r_i_number_2 : List CO := [⟨none, (some 2), (.mv (.k (.v (.int .i64 (1)))))⟩]
def r_i_number_3 : List CO := [⟨none, (some 2), (.mv (.k (.v (.int .i64 (0)))))⟩]
/-- loop.example/g00884/impl.number -/
def c_i_number : C := (.seq (.reg r_i_number_0 [0]) (.seq (.seq (.reg r_i_number_1 [3]) (.cond (.t 3) (.seq (.reg r_i_number_2 [2]) .ret) .skip)) (.seq (.reg r_i_number_3 [2]) .ret)))
def k_i_number : Nat → List Nat
  | 0 => [0]
  | 1 => [3]
  | 2 => [2]
  | 3 => [2]
  | _ => []
theorem fn_i_number : FnC Tryz.prog n_i_number c_i_number [(.tmp 2)] 4 :=
  ⟨Tryz.f188, _, k_i_number, Tryz.func188, rfl, by kernel_rfl, by kernel_rfl, by kernel_rfl, rfl⟩
def r_i_attitudes_0 : List CO := [⟨none, (some 2), (.mv (.k (.v (.slice none 0 0))))⟩]
def r_i_attitudes_1 : List CO := [⟨none, (some 3), (.mv (.t 0))⟩]
def r_i_attitudes_2 : List CO := [⟨none, (some 5), (.bin .eql .none (.t 3) (.k (.v (.int .i64 (1)))))⟩, ⟨none, (some 4), (.mv (.t 5))⟩]
def r_i_attitudes_3 : List CO := [⟨none, (some 6), (.bslice 1 (.v (.string (bs []))) 2 [(0, (.k (.v (.string (bs [114, 97, 109, 112, 97, 110, 116]))))), (1, (.k (.v (.string (bs [112, 97, 115, 115, 97, 110, 116])))))])⟩, ⟨none, (some 2), (.mv (.t 6))⟩]
def r_i_attitudes_4 : List CO := [⟨none, (some 8), (.bin .eql .none (.t 3) (.k (.v (.int .i64 (2)))))⟩, ⟨none, (some 7), (.mv (.t 8))⟩]
def r_i_attitudes_5 : List CO := [⟨none, (some 9), (.bslice 1 (.v (.string (bs []))) 2 [(0, (.k (.v (.string (bs [100, 105, 115, 112, 108, 97, 121, 101, 100]))))), (1, (.k (.v (.string (bs [114, 105, 115, 105, 110, 103])))))])⟩, ⟨none, (some 2), (.mv (.t 9))⟩]
def r_i_attitudes_6 : List CO := [⟨none, (some 11), (.bin .eql .none (.t 3) (.k (.v (.int .i64 (3)))))⟩, ⟨none, (some 10), (.mv (.t 11))⟩]
def r_i_attitudes_7 : List CO := [⟨none, (some 12), (.bslice 1 (.v (.string (bs []))) 2 [(0, (.k (.v (.string (bs [115, 119, 105, 109, 109, 105, 110, 103]))))), (1, (.k (.v (.string (bs [117, 112, 114, 105, 103, 104, 116])))))])⟩, ⟨none, (some 2), (.mv (.t 12))⟩]
def r_i_attitudes_8 : List CO := [⟨none, (some 13), (.bslice 1 (.v (.string (bs []))) 0 [])⟩, ⟨none, (some 2), (.mv (.t 13))⟩]
/-- loop.example/g00884/impl.attitudes -/
def c_i_attitudes : C := (.seq (.reg r_i_attitudes_0 [0]) (.seq (.seq (.reg r_i_attitudes_1 [3]) (.block 0 (.seq (.reg r_i_attitudes_2 [3, 4]) (.cond (.t 4) (.seq (.reg r_i_attitudes_3 [2]) .ret) (.seq (.reg r_i_attitudes_4 [3, 7]) (.cond (.t 7) (.seq (.reg r_i_attitudes_5 [2]) .ret) (.seq (.reg r_i_attitudes_6 [10]) (.cond (.t 10) (.seq (.reg r_i_attitudes_7 [2]) .ret) .skip)))))))) (.seq (.reg r_i_attitudes_8 [2]) .ret)))
def k_i_attitudes : Nat → List Nat
  | 0 => [0]
  | 1 => [3]
  | 2 => [3, 4]
  | 3 => [2]
  | 4 => [3, 7]
  | 5 => [2]
  | 6 => [10]
  | 7 => [2]
  | 8 => [2]
  | _ => []
theorem fn_i_attitudes : FnC Tryz.prog n_i_attitudes c_i_attitudes [(.tmp 2)] 14 :=
  ⟨Tryz.f220, _, k_i_attitudes, Tryz.func220, rfl, by kernel_rfl, by kernel_rfl, by kernel_rfl, rfl⟩
def r_s_l3Good_0 : List CO := [⟨none, (some 1), (.box 4 (.t 0))⟩, ⟨none, (some 2), (.mv (.k (.v (.bool false))))⟩]
def r_s_l3Good_1 : List CO := [⟨none, (some 3), (.faddr 0 (.t 1))⟩, ⟨none, (some 4), (.ld false 1 (.t 3))⟩, ⟨none, (some 5), (.call n_s_l1In [(.t 4), (.k (.v (.int .i64 (0)))), (.k (.v (.int .i64 (7))))])⟩, ⟨none, (some 6), (.un .not (.t 5))⟩, ⟨none, (some 7), (.mv (.t 6))⟩, ⟨(some (7, false)), (some 8), (.faddr 1 (.t 1))⟩, ⟨(some (7, false)), (some 9), (.ld false 1 (.t 8))⟩, ⟨(some (7, false)), (some 10), (.call n_s_l3Line [(.t 9)])⟩, ⟨(some (7, false)), (some 11), (.un .not (.t 10))⟩, ⟨none, (some 12), (.pick (.t 7) (.k (.v (.bool true))) (.t 11))⟩, ⟨none, (some 13), (.mv (.t 12))⟩, ⟨(some (13, false)), (some 14), (.faddr 2 (.t 1))⟩, ⟨(some (13, false)), (some 15), (.ld false 1 (.t 14))⟩, ⟨(some (13, false)), (some 16), (.call n_s_l2Good [(.t 15)])⟩, ⟨(some (13, false)), (some 17), (.un .not (.t 16))⟩, ⟨none, (some 18), (.pick (.t 13) (.k (.v (.bool true))) (.t 17))⟩]
def r_s_l3Good_2 : List CO := [⟨none, (some 2), (.mv (.k (.v (.bool false))))⟩]
def r_s_l3Good_3 : List CO := [⟨none, (some 19), (.faddr 0 (.t 1))⟩, ⟨none, (some 20), (.ld false 1 (.t 19))⟩, ⟨none, (some 21), (.bin .eql .none (.t 20) (.k (.v (.int .i64 (0)))))⟩]
def r_s_l3Good_4 : List CO := [⟨none, (some 22), (.faddr 1 (.t 1))⟩, ⟨none, (some 23), (.ld false 1 (.t 22))⟩, ⟨none, (some 24), (.bin .eql .none (.t 23) (.k (.v (.int .i64 (0)))))⟩, ⟨none, (some 25), (.mv (.t 24))⟩, ⟨(some (25, true)), (some 26), (.faddr 3 (.t 1))⟩, ⟨(some (25, true)), (some 27), (.ld false 1 (.t 26))⟩, ⟨(some (25, true)), (some 28), (.bin .eql .none (.t 27) (.k (.v (.int .i64 (0)))))⟩, ⟨none, (some 29), (.pick (.t 25) (.t 28) (.k (.v (.bool false))))⟩, ⟨none, (some 2), (.mv (.t 29))⟩]
def r_s_l3Good_5 : List CO := [⟨none, (some 30), (.faddr 3 (.t 1))⟩, ⟨none, (some 31), (.ld false 1 (.t 30))⟩, ⟨none, (some 32), (.call n_s_l2Good [(.t 31)])⟩, ⟨none, (some 33), (.mv (.t 32))⟩, ⟨(some (33, true)), (some 34), (.faddr 3 (.t 1))⟩, ⟨(some (33, true)), (some 35), (.ld false 1 (.t 34))⟩, ⟨(some (33, true)), (some 36), (.faddr 2 (.t 1))⟩, ⟨(some (33, true)), (some 37), (.ld false 1 (.t 36))⟩, ⟨(some (33, true)), (some 38), (.bin .neq .none (.t 35) (.t 37))⟩, ⟨none, (some 39), (.pick (.t 33) (.t 38) (.k (.v (.bool false))))⟩, ⟨none, (some 2), (.mv (.t 39))⟩]
/-- loop.example/g00884/spec.l3Good -/
def c_s_l3Good : C := (.seq (.reg r_s_l3Good_0 [1]) (.seq (.seq (.reg r_s_l3Good_1 [1, 18]) (.cond (.t 18) (.seq (.reg r_s_l3Good_2 [2]) .ret) .skip)) (.seq (.seq (.reg r_s_l3Good_3 [1, 21]) (.cond (.t 21) (.seq (.reg r_s_l3Good_4 [2]) .ret) .skip)) (.seq (.reg r_s_l3Good_5 [2]) .ret))))
def k_s_l3Good : Nat → List Nat
  | 0 => [1]
  | 1 => [1, 18]
  | 2 => [2]
  | 3 => [1, 21]
  | 4 => [2]
  | 5 => [2]
  | _ => []
theorem fn_s_l3Good : FnC Tryz.prog n_s_l3Good c_s_l3Good [(.tmp 2)] 40 :=
  ⟨Tryz.f175, _, k_s_l3Good, Tryz.func175, rfl, by kernel_rfl, by kernel_rfl, by kernel_rfl, rfl⟩
def r_i_IsValidField_0 : List CO := [⟨none, (some 1), (.box 4 (.t 0))⟩, ⟨none, (some 2), (.mv (.k (.v (.bool false))))⟩]
def r_i_IsValidField_1 : List CO := [⟨none, (some 3), (.faddr 0 (.t 1))⟩, ⟨none, (some 4), (.ld false 1 (.t 3))⟩, ⟨none, (some 5), (.call n_i_inside [(.t 4), (.k (.v (.int .i64 (0)))), (.k (.v (.int .i64 (7))))])⟩, ⟨none, (some 6), (.un .not (.t 5))⟩, ⟨none, (some 7), (.mv (.t 6))⟩, ⟨(some (7, false)), (some 8), (.faddr 1 (.t 1))⟩, ⟨(some (7, false)), (some 9), (.ld false 1 (.t 8))⟩, ⟨(some (7, false)), (some 10), (.call n_i_isLine [(.t 9)])⟩, ⟨(some (7, false)), (some 11), (.un .not (.t 10))⟩, ⟨none, (some 12), (.pick (.t 7) (.k (.v (.bool true))) (.t 11))⟩, ⟨none, (some 13), (.mv (.t 12))⟩, ⟨(some (13, false)), (some 14), (.faddr 2 (.t 1))⟩, ⟨(some (13, false)), (some 15), (.ld false 1 (.t 14))⟩, ⟨(some (13, false)), (some 16), (.call n_i_IsTincture [(.t 15)])⟩, ⟨(some (13, false)), (some 17), (.un .not (.t 16))⟩, ⟨none, (some 18), (.pick (.t 13) (.k (.v (.bool true))) (.t 17))⟩]
def r_i_IsValidField_2 : List CO := [⟨none, (some 2), (.mv (.k (.v (.bool false))))⟩]
def r_i_IsValidField_3 : List CO := [⟨none, (some 19), (.faddr 0 (.t 1))⟩, ⟨none, (some 20), (.ld false 1 (.t 19))⟩, ⟨none, (some 21), (.bin .eql .none (.t 20) (.k (.v (.int .i64 (0)))))⟩]
def r_i_IsValidField_4 : List CO := [⟨none, (some 22), (.faddr 1 (.t 1))⟩, ⟨none, (some 23), (.ld false 1 (.t 22))⟩, ⟨none, (some 24), (.bin .eql .none (.t 23) (.k (.v (.int .i64 (0)))))⟩, ⟨none, (some 25), (.mv (.t 24))⟩, ⟨(some (25, true)), (some 26), (.faddr 3 (.t 1))⟩, ⟨(some (25, true)), (some 27), (.ld false 1 (.t 26))⟩, ⟨(some (25, true)), (some 28), (.bin .eql .none (.t 27) (.k (.v (.int .i64 (0)))))⟩, ⟨none, (some 29), (.pick (.t 25) (.t 28) (.k (.v (.bool false))))⟩, ⟨none, (some 2), (.mv (.t 29))⟩]
def r_i_IsValidField_5 : List CO := [⟨none, (some 30), (.faddr 3 (.t 1))⟩, ⟨none, (some 31), (.ld false 1 (.t 30))⟩, ⟨none, (some 32), (.call n_i_IsTincture [(.t 31)])⟩, ⟨none, (some 33), (.mv (.t 32))⟩, ⟨(some (33, true)), (some 34), (.faddr 3 (.t 1))⟩, ⟨(some (33, true)), (some 35), (.ld false 1 (.t 34))⟩, ⟨(some (33, true)), (some 36), (.faddr 2 (.t 1))⟩, ⟨(some (33, true)), (some 37), (.ld false 1 (.t 36))⟩, ⟨(some (33, true)), (some 38), (.bin .neq .none (.t 35) (.t 37))⟩, ⟨none, (some 39), (.pick (.t 33) (.t 38) (.k (.v (.bool false))))⟩, ⟨none, (some 2), (.mv (.t 39))⟩]
/-- loop.example/g00884/impl.IsValidField -/
def c_i_IsValidField : C := (.seq (.reg r_i_IsValidField_0 [1]) (.seq (.seq (.reg r_i_IsValidField_1 [1, 18]) (.cond (.t 18) (.seq (.reg r_i_IsValidField_2 [2]) .ret) .skip)) (.seq (.seq (.reg r_i_IsValidField_3 [1, 21]) (.cond (.t 21) (.seq (.reg r_i_IsValidField_4 [2]) .ret) .skip)) (.seq (.reg r_i_IsValidField_5 [2]) .ret))))
def k_i_IsValidField : Nat → List Nat
  | 0 => [1]
  | 1 => [1, 18]
  | 2 => [2]
  | 3 => [1, 21]
  | 4 => [2]
  | 5 => [2]
  | _ => []
theorem fn_i_IsValidField : FnC Tryz.prog n_i_IsValidField c_i_IsValidField [(.tmp 2)] 40 :=
  ⟨Tryz.f140, _, k_i_IsValidField, Tryz.func140, rfl, by kernel_rfl, by kernel_rfl, by kernel_rfl, rfl⟩
def r_s_l4Group_0 : List CO := [⟨none, (some 1), (.box 4 (.t 0))⟩, ⟨none, (some 2), (.mv (.k (.v (.bool false))))⟩]
def r_s_l4Group_1 : List CO := [⟨none, (some 3), (.faddr 0 (.t 1))⟩, ⟨none, (some 4), (.ld false 1 (.t 3))⟩, ⟨none, (some 5), (.call n_s_l1In [(.t 4), (.k (.v (.int .i64 (1)))), (.k (.v (.int .i64 (6))))])⟩, ⟨none, (some 6), (.un .not (.t 5))⟩, ⟨none, (some 7), (.mv (.t 6))⟩, ⟨(some (7, false)), (some 8), (.faddr 1 (.t 1))⟩, ⟨(some (7, false)), (some 9), (.ld false 1 (.t 8))⟩, ⟨(some (7, false)), (some 10), (.call n_s_l4Kind [(.t 9)])⟩, ⟨(some (7, false)), (some 11), (.un .not (.t 10))⟩, ⟨none, (some 12), (.pick (.t 7) (.k (.v (.bool true))) (.t 11))⟩, ⟨none, (some 13), (.mv (.t 12))⟩, ⟨(some (13, false)), (some 14), (.faddr 3 (.t 1))⟩, ⟨(some (13, false)), (some 15), (.ld false 1 (.t 14))⟩, ⟨(some (13, false)), (some 16), (.call n_s_l2Good [(.t 15)])⟩, ⟨(some (13, false)), (some 17), (.un .not (.t 16))⟩, ⟨none, (some 18), (.pick (.t 13) (.k (.v (.bool true))) (.t 17))⟩]
def r_s_l4Group_2 : List CO := [⟨none, (some 2), (.mv (.k (.v (.bool false))))⟩]
def r_s_l4Group_3 : List CO := [⟨none, (some 19), (.faddr 1 (.t 1))⟩, ⟨none, (some 20), (.ld false 1 (.t 19))⟩, ⟨none, (some 21), (.call n_s_l4Beast [(.t 20)])⟩]
def r_s_l4Group_4 : List CO := [⟨none, (some 22), (.faddr 2 (.t 1))⟩, ⟨none, (some 23), (.ld false 1 (.t 22))⟩, ⟨none, (some 24), (.call n_s_l1In [(.t 23), (.k (.v (.int .i64 (1)))), (.k (.v (.int .i64 (2))))])⟩, ⟨none, (some 2), (.mv (.t 24))⟩]
def r_s_l4Group_5 : List CO := [⟨none, (some 25), (.faddr 2 (.t 1))⟩, ⟨none, (some 26), (.ld false 1 (.t 25))⟩, ⟨none, (some 27), (.bin .eql .none (.t 26) (.k (.v (.int .i64 (0)))))⟩, ⟨none, (some 2), (.mv (.t 27))⟩]
/-- loop.example/g00884/spec.l4Group -/
def c_s_l4Group : C := (.seq (.reg r_s_l4Group_0 [1]) (.seq (.seq (.reg r_s_l4Group_1 [1, 18]) (.cond (.t 18) (.seq (.reg r_s_l4Group_2 [2]) .ret) .skip)) (.seq (.seq (.reg r_s_l4Group_3 [1, 21]) (.cond (.t 21) (.seq (.reg r_s_l4Group_4 [2]) .ret) .skip)) (.seq (.reg r_s_l4Group_5 [2]) .ret))))
def k_s_l4Group : Nat → List Nat
  | 0 => [1]
  | 1 => [1, 18]
  | 2 => [2]
  | 3 => [1, 21]
  | 4 => [2]
  | 5 => [2]
  | _ => []
theorem fn_s_l4Group : FnC Tryz.prog n_s_l4Group c_s_l4Group [(.tmp 2)] 28 :=
  ⟨Tryz.f176, _, k_s_l4Group, Tryz.func176, rfl, by kernel_rfl, by kernel_rfl, by kernel_rfl, rfl⟩
def r_i_IsValidGroup_0 : List CO := [⟨none, (some 1), (.box 4 (.t 0))⟩, ⟨none, (some 2), (.mv (.k (.v (.bool false))))⟩]
def r_i_IsValidGroup_1 : List CO := [⟨none, (some 4), (.faddr 0 (.t 1))⟩, ⟨none, (some 5), (.ld false 1 (.t 4))⟩, ⟨none, (some 6), (.call n_i_inside [(.t 5), (.k (.v (.int .i64 (1)))), (.k (.v (.int .i64 (6))))])⟩, ⟨none, (some 7), (.un .not (.t 6))⟩, ⟨none, (some 8), (.mv (.t 7))⟩, ⟨(some (8, false)), (some 9), (.faddr 1 (.t 1))⟩, ⟨(some (8, false)), (some 10), (.ld false 1 (.t 9))⟩, ⟨(some (8, false)), (some 11), (.call n_i_isKind [(.t 10)])⟩, ⟨(some (8, false)), (some 12), (.un .not (.t 11))⟩, ⟨none, (some 13), (.pick (.t 8) (.k (.v (.bool true))) (.t 12))⟩, ⟨none, (some 14), (.mv (.t 13))⟩, ⟨(some (14, false)), (some 15), (.faddr 3 (.t 1))⟩, ⟨(some (14, false)), (some 16), (.ld false 1 (.t 15))⟩, ⟨(some (14, false)), (some 17), (.call n_i_IsTincture [(.t 16)])⟩, ⟨(some (14, false)), (some 18), (.un .not (.t 17))⟩, ⟨none, (some 19), (.pick (.t 14) (.k (.v (.bool true))) (.t 18))⟩]
def r_i_IsValidGroup_2 : List CO := [⟨none, (some 2), (.mv (.k (.v (.bool false))))⟩]
def r_i_IsValidGroup_3 : List CO := [⟨none, (some 20), (.faddr 1 (.t 1))⟩, ⟨none, (some 21), (.ld false 1 (.t 20))⟩, ⟨none, (some 22), (.call n_i_attitudes [(.t 21)])⟩, ⟨none, (some 23), (.len false (.t 22))⟩, ⟨none, (some 3), (.mv (.t 23))⟩]
def r_i_IsValidGroup_4 : List CO := [⟨none, (some 24), (.mv (.t 3))⟩, ⟨none, (some 25), (.bin .gtr .none (.t 24) (.k (.v (.int .i64 (0)))))⟩]
def r_i_IsValidGroup_5 : List CO := [⟨none, (some 26), (.faddr 2 (.t 1))⟩, ⟨none, (some 27), (.ld false 1 (.t 26))⟩, ⟨none, (some 28), (.mv (.t 3))⟩, ⟨none, (some 29), (.call n_i_inside [(.t 27), (.k (.v (.int .i64 (1)))), (.t 28)])⟩, ⟨none, (some 2), (.mv (.t 29))⟩]
def r_i_IsValidGroup_6 : List CO := [⟨none, (some 30), (.faddr 2 (.t 1))⟩, ⟨none, (some 31), (.ld false 1 (.t 30))⟩, ⟨none, (some 32), (.bin .eql .none (.t 31) (.k (.v (.int .i64 (0)))))⟩, ⟨none, (some 2), (.mv (.t 32))⟩]
/-- loop.example/g00884/impl.IsValidGroup -/
def c_i_IsValidGroup : C := (.seq (.reg r_i_IsValidGroup_0 [1]) (.seq (.seq (.reg r_i_IsValidGroup_1 [1, 19]) (.cond (.t 19) (.seq (.reg r_i_IsValidGroup_2 [2]) .ret) .skip)) (.seq (.seq (.reg r_i_IsValidGroup_3 [1, 3]) (.seq (.reg r_i_IsValidGroup_4 [1, 3, 25]) (.cond (.t 25) (.seq (.reg r_i_IsValidGroup_5 [2]) .ret) .skip))) (.seq (.reg r_i_IsValidGroup_6 [2]) .ret))))
def k_i_IsValidGroup : Nat → List Nat
  | 0 => [1]
  | 1 => [1, 19]
  | 2 => [2]
  | 3 => [1, 3]
  | 4 => [1, 3, 25]
  | 5 => [2]
  | 6 => [2]
  | _ => []
theorem fn_i_IsValidGroup : FnC Tryz.prog n_i_IsValidGroup c_i_IsValidGroup [(.tmp 2)] 33 :=
  ⟨Tryz.f185, _, k_i_IsValidGroup, Tryz.func185, rfl, by kernel_rfl, by kernel_rfl, by kernel_rfl, rfl⟩
def r_i_isGroup_0 : List CO := [⟨none, (some 1), (.box 4 (.t 0))⟩, ⟨none, (some 2), (.mv (.k (.v (.bool false))))⟩]
def r_i_isGroup_1 : List CO := [⟨none, (some 3), (.ld true 4 (.t 1))⟩, ⟨none, (some 4), (.build (.agg [(.v (.int .i64 (0))), (.v (.int .i64 (0))), (.v (.int .i64 (0))), (.v (.int .i64 (0)))]) [])⟩, ⟨none, (some 5), (.bin .eql (.struct [EK.int, EK.int, EK.int, EK.int]) (.t 3) (.t 4))⟩, ⟨none, (some 6), (.mv (.t 5))⟩, ⟨(some (6, false)), (some 7), (.ld true 4 (.t 1))⟩, ⟨(some (6, false)), (some 8), (.call n_i_IsValidGroup [(.t 7)])⟩, ⟨none, (some 9), (.pick (.t 6) (.k (.v (.bool true))) (.t 8))⟩, ⟨none, (some 2), (.mv (.t 9))⟩]
/-- loop.example/g00884/impl.isGroup -/
def c_i_isGroup : C := (.seq (.reg r_i_isGroup_0 [1]) (.seq (.reg r_i_isGroup_1 [2]) .ret))
def k_i_isGroup : Nat → List Nat
  | 0 => [1]
  | 1 => [2]
  | _ => []
theorem fn_i_isGroup : FnC Tryz.prog n_i_isGroup c_i_isGroup [(.tmp 2)] 10 :=
  ⟨Tryz.f141, _, k_i_isGroup, Tryz.func141, rfl, by kernel_rfl, by kernel_rfl, by kernel_rfl, rfl⟩
def r_i_isOrdinary_0 : List CO := [⟨none, (some 6), (.mv (.k (.v (.bool false))))⟩]
def r_i_isOrdinary_1 : List CO := [⟨none, (some 7), (.mv (.t 0))⟩, ⟨none, (some 8), (.call n_i_inside [(.t 7), (.k (.v (.int .i64 (1)))), (.k (.v (.int .i64 (7))))])⟩, ⟨none, (some 9), (.mv (.t 8))⟩, ⟨(some (9, true)), (some 10), (.mv (.t 1))⟩, ⟨(some (9, true)), (some 11), (.call n_i_isLine [(.t 10)])⟩, ⟨none, (some 12), (.pick (.t 9) (.t 11) (.k (.v (.bool false))))⟩, ⟨none, (some 13), (.mv (.t 12))⟩, ⟨(some (13, true)), (some 14), (.mv (.t 2))⟩, ⟨(some (13, true)), (some 15), (.call n_i_IsTincture [(.t 14)])⟩, ⟨none, (some 16), (.pick (.t 13) (.t 15) (.k (.v (.bool false))))⟩, ⟨none, (some 6), (.mv (.t 16))⟩]
/-- loop.example/g00884/impl.isOrdinary -/
def c_i_isOrdinary : C := (.seq (.reg r_i_isOrdinary_0 [0, 1, 2]) (.seq (.reg r_i_isOrdinary_1 [6]) .ret))
def k_i_isOrdinary : Nat → List Nat
  | 0 => [0, 1, 2]
  | 1 => [6]
  | _ => []
theorem fn_i_isOrdinary : FnC Tryz.prog n_i_isOrdinary c_i_isOrdinary [(.tmp 6)] 17 :=
  ⟨Tryz.f142, _, k_i_isOrdinary, Tryz.func142, rfl, by kernel_rfl, by kernel_rfl, by kernel_rfl, rfl⟩
def r_i_IsValidArms_0 : List CO := [⟨none, (some 1), (.box 15 (.t 0))⟩, ⟨none, (some 2), (.mv (.k (.v (.bool false))))⟩]
def r_i_IsValidArms_1 : List CO := [⟨none, (some 3), (.faddr 0 (.t 1))⟩, ⟨none, (some 4), (.ld true 4 (.t 3))⟩, ⟨none, (some 5), (.call n_i_IsValidField [(.t 4)])⟩, ⟨none, (some 6), (.un .not (.t 5))⟩, ⟨none, (some 7), (.mv (.t 6))⟩, ⟨(some (7, false)), (some 8), (.faddr 11 (.t 1))⟩, ⟨(some (7, false)), (some 9), (.ld true 4 (.t 8))⟩, ⟨(some (7, false)), (some 10), (.call n_i_isGroup [(.t 9)])⟩, ⟨(some (7, false)), (some 11), (.un .not (.t 10))⟩, ⟨none, (some 12), (.pick (.t 7) (.k (.v (.bool true))) (.t 11))⟩]
def r_i_IsValidArms_2 : List CO := [⟨none, (some 2), (.mv (.k (.v (.bool false))))⟩]
def r_i_IsValidArms_3 : List CO := [⟨none, (some 13), (.faddr 4 (.t 1))⟩, ⟨none, (some 14), (.ld false 1 (.t 13))⟩, ⟨none, (some 15), (.bin .eql .none (.t 14) (.k (.v (.int .i64 (0)))))⟩]
def r_i_IsValidArms_4 : List CO := [⟨none, (some 16), (.faddr 5 (.t 1))⟩, ⟨none, (some 17), (.ld false 1 (.t 16))⟩, ⟨none, (some 18), (.bin .eql .none (.t 17) (.k (.v (.int .i64 (0)))))⟩, ⟨none, (some 19), (.mv (.t 18))⟩, ⟨(some (19, true)), (some 20), (.faddr 6 (.t 1))⟩, ⟨(some (19, true)), (some 21), (.ld false 1 (.t 20))⟩, ⟨(some (19, true)), (some 22), (.bin .eql .none (.t 21) (.k (.v (.int .i64 (0)))))⟩, ⟨none, (some 23), (.pick (.t 19) (.t 22) (.k (.v (.bool false))))⟩, ⟨none, (some 24), (.mv (.t 23))⟩, ⟨(some (24, true)), (some 25), (.faddr 7 (.t 1))⟩, ⟨(some (24, true)), (some 26), (.ld true 4 (.t 25))⟩, ⟨(some (24, true)), (some 27), (.build (.agg [(.v (.int .i64 (0))), (.v (.int .i64 (0))), (.v (.int .i64 (0))), (.v (.int .i64 (0)))]) [])⟩, ⟨(some (24, true)), (some 28), (.bin .eql (.struct [EK.int, EK.int, EK.int, EK.int]) (.t 26) (.t 27))⟩, ⟨none, (some 29), (.pick (.t 24) (.t 28) (.k (.v (.bool false))))⟩, ⟨none, (some 2), (.mv (.t 29))⟩]
def r_i_IsValidArms_5 : List CO := [⟨none, (some 30), (.faddr 4 (.t 1))⟩, ⟨none, (some 31), (.ld false 1 (.t 30))⟩, ⟨none, (some 32), (.faddr 5 (.t 1))⟩, ⟨none, (some 33), (.ld false 1 (.t 32))⟩, ⟨none, (some 34), (.faddr 6 (.t 1))⟩, ⟨none, (some 35), (.ld false 1 (.t 34))⟩, ⟨none, (some 36), (.call n_i_isOrdinary [(.t 31), (.t 33), (.t 35)])⟩, ⟨none, (some 37), (.mv (.t 36))⟩, ⟨(some (37, true)), (some 38), (.faddr 7 (.t 1))⟩, ⟨(some (37, true)), (some 39), (.ld true 4 (.t 38))⟩, ⟨(some (37, true)), (some 40), (.call n_i_isGroup [(.t 39)])⟩, ⟨none, (some 41), (.pick (.t 37) (.t 40) (.k (.v (.bool false))))⟩, ⟨none, (some 2), (.mv (.t 41))⟩]
/-- loop.example/g00884/impl.IsValidArms -/
def c_i_IsValidArms : C := (.seq (.reg r_i_IsValidArms_0 [1]) (.seq (.seq (.reg r_i_IsValidArms_1 [1, 12]) (.cond (.t 12) (.seq (.reg r_i_IsValidArms_2 [2]) .ret) .skip)) (.seq (.seq (.reg r_i_IsValidArms_3 [1, 15]) (.cond (.t 15) (.seq (.reg r_i_IsValidArms_4 [2]) .ret) .skip)) (.seq (.reg r_i_IsValidArms_5 [2]) .ret))))
def k_i_IsValidArms : Nat → List Nat
  | 0 => [1]
  | 1 => [1, 12]
  | 2 => [2]
  | 3 => [1, 15]
  | 4 => [2]
  | 5 => [2]
  | _ => []
theorem fn_i_IsValidArms : FnC Tryz.prog n_i_IsValidArms c_i_IsValidArms [(.tmp 2)] 42 :=
  ⟨Tryz.f97, _, k_i_IsValidArms, Tryz.func97, rfl, by kernel_rfl, by kernel_rfl, by kernel_rfl, rfl⟩
def r_s_l5Good_0 : List CO := [⟨none, (some 1), (.box 15 (.t 0))⟩, ⟨none, (some 2), (.mv (.k (.v (.bool false))))⟩]
def r_s_l5Good_1 : List CO := [⟨none, (some 3), (.faddr 0 (.t 1))⟩, ⟨none, (some 4), (.ld true 4 (.t 3))⟩, ⟨none, (some 5), (.call n_s_l3Good [(.t 4)])⟩, ⟨none, (some 6), (.un .not (.t 5))⟩, ⟨none, (some 7), (.mv (.t 6))⟩, ⟨(some (7, false)), (some 8), (.faddr 4 (.t 1))⟩, ⟨(some (7, false)), (some 9), (.ld false 1 (.t 8))⟩, ⟨(some (7, false)), (some 10), (.call n_s_l1In [(.t 9), (.k (.v (.int .i64 (0)))), (.k (.v (.int .i64 (7))))])⟩, ⟨(some (7, false)), (some 11), (.un .not (.t 10))⟩, ⟨none, (some 12), (.pick (.t 7) (.k (.v (.bool true))) (.t 11))⟩, ⟨none, (some 13), (.mv (.t 12))⟩, ⟨(some (13, false)), (some 14), (.faddr 11 (.t 1))⟩, ⟨(some (13, false)), (some 15), (.ld true 4 (.t 14))⟩, ⟨(some (13, false)), (some 16), (.call n_s_l4None [(.t 15)])⟩, ⟨(some (13, false)), (some 17), (.un .not (.t 16))⟩, ⟨(some (13, false)), (some 18), (.mv (.t 17))⟩, ⟨(some (18, true)), (some 19), (.faddr 11 (.t 1))⟩, ⟨(some (18, true)), (some 20), (.ld true 4 (.t 19))⟩, ⟨(some (18, true)), (some 21), (.call n_s_l4Group [(.t 20)])⟩, ⟨(some (18, true)), (some 22), (.un .not (.t 21))⟩, ⟨(some (13, false)), (some 23), (.pick (.t 18) (.t 22) (.k (.v (.bool false))))⟩, ⟨none, (some 24), (.pick (.t 13) (.k (.v (.bool true))) (.t 23))⟩]
def r_s_l5Good_2 : List CO := [⟨none, (some 2), (.mv (.k (.v (.bool false))))⟩]
def r_s_l5Good_3 : List CO := [⟨none, (some 25), (.faddr 4 (.t 1))⟩, ⟨none, (some 26), (.ld false 1 (.t 25))⟩, ⟨none, (some 27), (.bin .eql .none (.t 26) (.k (.v (.int .i64 (0)))))⟩]
def r_s_l5Good_4 : List CO := [⟨none, (some 28), (.faddr 5 (.t 1))⟩, ⟨none, (some 29), (.ld false 1 (.t 28))⟩, ⟨none, (some 30), (.bin .eql .none (.t 29) (.k (.v (.int .i64 (0)))))⟩, ⟨none, (some 31), (.mv (.t 30))⟩, ⟨(some (31, true)), (some 32), (.faddr 6 (.t 1))⟩, ⟨(some (31, true)), (some 33), (.ld false 1 (.t 32))⟩, ⟨(some (31, true)), (some 34), (.bin .eql .none (.t 33) (.k (.v (.int .i64 (0)))))⟩, ⟨none, (some 35), (.pick (.t 31) (.t 34) (.k (.v (.bool false))))⟩, ⟨none, (some 36), (.mv (.t 35))⟩, ⟨(some (36, true)), (some 37), (.faddr 7 (.t 1))⟩, ⟨(some (36, true)), (some 38), (.ld true 4 (.t 37))⟩, ⟨(some (36, true)), (some 39), (.call n_s_l4None [(.t 38)])⟩, ⟨none, (some 40), (.pick (.t 36) (.t 39) (.k (.v (.bool false))))⟩, ⟨none, (some 2), (.mv (.t 40))⟩]
def r_s_l5Good_5 : List CO := [⟨none, (some 41), (.faddr 5 (.t 1))⟩, ⟨none, (some 42), (.ld false 1 (.t 41))⟩, ⟨none, (some 43), (.call n_s_l3Line [(.t 42)])⟩, ⟨none, (some 44), (.mv (.t 43))⟩, ⟨(some (44, true)), (some 45), (.faddr 6 (.t 1))⟩, ⟨(some (44, true)), (some 46), (.ld false 1 (.t 45))⟩, ⟨(some (44, true)), (some 47), (.call n_s_l2Good [(.t 46)])⟩, ⟨none, (some 48), (.pick (.t 44) (.t 47) (.k (.v (.bool false))))⟩, ⟨none, (some 49), (.mv (.t 48))⟩, ⟨(some (49, true)), (some 50), (.faddr 7 (.t 1))⟩, ⟨(some (49, true)), (some 51), (.ld true 4 (.t 50))⟩, ⟨(some (49, true)), (some 52), (.call n_s_l4None [(.t 51)])⟩, ⟨(some (49, true)), (some 53), (.mv (.t 52))⟩, ⟨(some (53, false)), (some 54), (.faddr 7 (.t 1))⟩, ⟨(some (53, false)), (some 55), (.ld true 4 (.t 54))⟩, ⟨(some (53, false)), (some 56), (.call n_s_l4Group [(.t 55)])⟩, ⟨(some (49, true)), (some 57), (.pick (.t 53) (.k (.v (.bool true))) (.t 56))⟩, ⟨none, (some 58), (.pick (.t 49) (.t 57) (.k (.v (.bool false))))⟩, ⟨none, (some 2), (.mv (.t 58))⟩]
/-- loop.example/g00884/spec.l5Good -/
def c_s_l5Good : C := (.seq (.reg r_s_l5Good_0 [1]) (.seq (.seq (.reg r_s_l5Good_1 [1, 24]) (.cond (.t 24) (.seq (.reg r_s_l5Good_2 [2]) .ret) .skip)) (.seq (.seq (.reg r_s_l5Good_3 [1, 27]) (.cond (.t 27) (.seq (.reg r_s_l5Good_4 [2]) .ret) .skip)) (.seq (.reg r_s_l5Good_5 [2]) .ret))))
def k_s_l5Good : Nat → List Nat
  | 0 => [1]
  | 1 => [1, 24]
  | 2 => [2]
  | 3 => [1, 27]
  | 4 => [2]
  | 5 => [2]
  | _ => []
theorem fn_s_l5Good : FnC Tryz.prog n_s_l5Good c_s_l5Good [(.tmp 2)] 59 :=
  ⟨Tryz.f132, _, k_s_l5Good, Tryz.func132, rfl, by kernel_rfl, by kernel_rfl, by kernel_rfl, rfl⟩
end Go.Proofs.YtbeoijlggphklaaGreatDoor

/- The compact code of the functions, and that it is theirs: written by a program of this claim. -/
namespace Go.Proofs.YtbeoijlggphklaaGreatDoor
open Go.Abs
set_option maxRecDepth 100000
def r_s_l2Good_0 : List CO := [⟨none, (some 2), (.mv (.k (.v (.bool false))))⟩]
def r_s_l2Good_1 : List CO := [⟨none, (some 3), (.mv (.t 0))⟩, ⟨none, (some 4), (.call n_s_l1In [(.t 3), (.k (.v (.int .i64 (1)))), (.k (.v (.int .i64 (9))))])⟩, ⟨none, (some 2), (.mv (.t 4))⟩]
/-- loop.example/g00884/spec.l2Good -/
def c_s_l2Good : C := (.seq (.reg r_s_l2Good_0 [0]) (.seq (.reg r_s_l2Good_1 [2]) .ret))
def k_s_l2Good : Nat → List Nat
  | 0 => [0]
  | 1 => [2]
  | _ => []
theorem fn_s_l2Good : FnC Tryz.prog n_s_l2Good c_s_l2Good [(.tmp 2)] 5 :=
  ⟨Tryz.f178, _, k_s_l2Good, Tryz.func178, rfl, by kernel_rfl, by kernel_rfl, by kernel_rfl, rfl⟩
def r_i_IsTincture_0 : List CO := [⟨none, (some 2), (.mv (.k (.v (.bool false))))⟩]
def r_i_IsTincture_1 : List CO := [⟨none, (some 3), (.mv (.t 0))⟩, ⟨none, (some 4), (.call n_i_inside [(.t 3), (.k (.v (.int .i64 (1)))), (.k (.v (.int .i64 (9))))])⟩, ⟨none, (some 2), (.mv (.t 4))⟩]
/-- loop.example/g00884/impl.IsTincture -/
def c_i_IsTincture : C := (.seq (.reg r_i_IsTincture_0 [0]) (.seq (.reg r_i_IsTincture_1 [2]) .ret))
def k_i_IsTincture : Nat → List Nat
  | 0 => [0]
  | 1 => [2]
  | _ => []
theorem fn_i_IsTincture : FnC Tryz.prog n_i_IsTincture c_i_IsTincture [(.tmp 2)] 5 :=
  ⟨Tryz.f184, _, k_i_IsTincture, Tryz.func184, rfl, by kernel_rfl, by kernel_rfl, by kernel_rfl, rfl⟩
end Go.Proofs.YtbeoijlggphklaaGreatDoor

/- The compact code of the functions, and that it is theirs: written by a program of this claim. -/
namespace Go.Proofs.YtbeoijlggphklaaGreatDoor
open Go.Abs
set_option maxRecDepth 100000
end Go.Proofs.YtbeoijlggphklaaGreatDoor

/- Contracts of library functions on rows: looking for an element. -/
set_option linter.unusedVariables false
set_option linter.unusedSimpArgs false
namespace Go.Proofs.YtbeoijlggphklaaGreatDoor
open Go.Abs

/-- The place of the first element for which something holds, or -1. -/
def idx {α : Type} (p : α → Bool) (l : List α) : Int := if l.findIdx p < l.length then (l.findIdx p : Nat) else -1
theorem idx_at {α : Type} {p : α → Bool} {l : List α} {i : Nat} (hi : i < l.length) (h : ∀ j (_ : j < i), p (l[j]'(by omega)) = false) (hp : p l[i] = true) : idx p l = i := by
  have e : l.findIdx p = i := (List.findIdx_eq hi).2 ⟨hp, h⟩
  simp [idx, e, hi]
theorem idx_none {α : Type} {p : α → Bool} {l : List α} (h : ∀ j (_ : j < l.length), p l[j] = false) : idx p l = -1 := by
  have e : l.findIdx p = l.length := by
    rw [List.findIdx_eq_length]
    intro x hx
    obtain ⟨j, hj, rfl⟩ := List.getElem_of_mem hx
    exact h j hj
  simp [idx, e]
theorem idx_any {α : Type} {p : α → Bool} {l : List α} : decide (0 ≤ idx p l) = l.any p := by
  rw [Bool.eq_iff_iff, decide_eq_true_iff, List.any_eq_true]
  unfold idx
  constructor
  · intro h
    split at h
    · rename_i hlt
      exact ⟨_, List.getElem_mem hlt, List.findIdx_getElem⟩
    · omega
  · rintro ⟨x, hx, hp⟩
    rw [if_pos (List.findIdx_lt_length_of_exists ⟨x, hx, hp⟩)]
    omega
end Go.Proofs.YtbeoijlggphklaaGreatDoor

/- The test of a banner, in the program and in the reference. -/
set_option linter.unusedVariables false
set_option linter.unusedSimpArgs false
namespace Go.Proofs.YtbeoijlggphklaaGreatDoor
open Go.Abs

theorem s_l2Good (x : Int) : PCall Tryz.prog n_s_l2Good [I x] (B (inR x 1 9)) := by
  refine PCall.of fn_s_l2Good (by simp) ?_
  simp [c_s_l2Good, r_s_l2Good_0, r_s_l2Good_1]
  exact callQ_v (s_l1In ..) (by simp)
theorem i_IsTincture (x : Int) : PCall Tryz.prog n_i_IsTincture [I x] (B (inR x 1 9)) := by
  refine PCall.of fn_i_IsTincture (by simp) ?_
  simp [c_i_IsTincture, r_i_IsTincture_0, r_i_IsTincture_1]
  exact callQ_v (i_inside ..) (by simp)
/-- A valid row of a banner whose rows have n cells. -/
def rowOk (n : Nat) (r : List Int) : Bool := decide (r.length = n) && r.all fun x => inR x 1 9
/-- How many columns a banner has. -/
def wide (b : List (List Int)) : Nat := (b.headD []).length
/-- A valid banner. -/
def banner (b : List (List Int)) : Bool := inR b.length 1 60 && inR (wide b) 1 60 && b.all (rowOk (wide b))

end Go.Proofs.YtbeoijlggphklaaGreatDoor

/- Fields, groups of charges, arms: the tests, the layers; in the program and in the reference. -/
set_option linter.unusedVariables false
set_option linter.unusedSimpArgs false
namespace Go.Proofs.YtbeoijlggphklaaGreatDoor
open Go.Abs

structure Field where
  division : Int
  line : Int
  first : Int
  second : Int
  deriving DecidableEq
structure Group where
  count : Int
  kind : Int
  attitude : Int
  tincture : Int
  deriving DecidableEq
structure Arms where
  field : Field
  ordinary : Int
  line : Int
  tincture : Int
  on : Group
  around : Group
  deriving DecidableEq
abbrev eField (f : Field) : V := .agg [I f.division, I f.line, I f.first, I f.second]
abbrev eGroup (g : Group) : V := .agg [I g.count, I g.kind, I g.attitude, I g.tincture]
abbrev eArms (a : Arms) : V := .agg [I a.field.division, I a.field.line, I a.field.first, I a.field.second, I a.ordinary, I a.line, I a.tincture,
  I a.on.count, I a.on.kind, I a.on.attitude, I a.on.tincture, I a.around.count, I a.around.kind, I a.around.attitude, I a.around.tincture]

/-! ### The tests -/
def fieldOk (f : Field) : Bool := inR f.division 0 7 && inR f.line 0 4 && inR f.first 1 9 && (if f.division = 0 then f.line == 0 && f.second == 0 else inR f.second 1 9 && f.second != f.first)
def groupOk (g : Group) : Bool := inR g.count 1 6 && inR g.kind 1 8 && inR g.tincture 1 9 && (if g.kind ≤ 3 then inR g.attitude 1 2 else g.attitude == 0)
/-- No group. -/
def g0 (g : Group) : Bool := g.count == 0 && (g.kind == 0 && (g.attitude == 0 && g.tincture == 0))
def arms (a : Arms) : Bool := fieldOk a.field && (g0 a.around || groupOk a.around) && (if a.ordinary = 0 then a.line == 0 && a.tincture == 0 && g0 a.on else inR a.ordinary 1 7 && inR a.line 0 4 && inR a.tincture 1 9 && (g0 a.on || groupOk a.on))
def bit (b : Bool) : Int := if b then 1 else 0
def layers (a : Arms) : Int := 1 + bit (a.ordinary != 0) + bit (!g0 a.on) + bit (!g0 a.around)
theorem i_isLine (x : Int) : PCall Tryz.prog n_i_isLine [I x] (B (inR x 0 4)) := by
  refine PCall.of fn_i_isLine (by simp) ?_
  simp [c_i_isLine, r_i_isLine_0, r_i_isLine_1]
  exact callQ_v (i_inside ..) (by simp)
theorem i_isKind (x : Int) : PCall Tryz.prog n_i_isKind [I x] (B (inR x 1 8)) := by
  refine PCall.of fn_i_isKind (by simp) ?_
  simp [c_i_isKind, r_i_isKind_0, r_i_isKind_1]
  exact callQ_v (i_inside ..) (by simp)
theorem s_l3Line (x : Int) : PCall Tryz.prog n_s_l3Line [I x] (B (inR x 0 4)) := by
  refine PCall.of fn_s_l3Line (by simp) ?_
  simp [c_s_l3Line, r_s_l3Line_0, r_s_l3Line_1]
  exact callQ_v (s_l1In ..) (by simp)
theorem s_l4Kind (x : Int) : PCall Tryz.prog n_s_l4Kind [I x] (B (inR x 1 8)) := by
  refine PCall.of fn_s_l4Kind (by simp) ?_
  simp [c_s_l4Kind, r_s_l4Kind_0, r_s_l4Kind_1]
  exact callQ_v (s_l1In ..) (by simp)
theorem s_l4Beast (x : Int) : PCall Tryz.prog n_s_l4Beast [I x] (B (decide (x ≤ 3))) := by
  refine PCall.of fn_s_l4Beast (by simp) ?_
  simp [c_s_l4Beast, r_s_l4Beast_0, r_s_l4Beast_1]
theorem s_l4None (g : Group) : PCall Tryz.prog n_s_l4None [eGroup g] (B (g0 g)) := by
  refine PCall.of fn_s_l4None (by simp) ?_
  simp [c_s_l4None, r_s_l4None_0, r_s_l4None_1, g0]
theorem i_number (b : Bool) : PCall Tryz.prog n_i_number [B b] (I (bit b)) := by
  refine PCall.of fn_i_number (by simp) ?_
  cases b <;> simp [c_i_number, r_i_number_0, r_i_number_1, r_i_number_2, r_i_number_3, bit]

/-- The words of the attitudes of a kind. -/
def attitudes (k : Int) : List (List UInt8) := if k = 1 then [[114, 97, 109, 112, 97, 110, 116], [112, 97, 115, 115, 97, 110, 116]] else if k = 2 then [[100, 105, 115, 112, 108, 97, 121, 101, 100], [114, 105, 115, 105, 110, 103]] else if k = 3 then [[115, 119, 105, 109, 109, 105, 110, 103], [117, 112, 114, 105, 103, 104, 116]] else []
theorem attitudes_len (k : Int) : ((attitudes k).length : Int) = if 1 ≤ k ∧ k ≤ 3 then 2 else 0 := by
  unfold attitudes
  split
  · rw [if_pos (by omega)]; rfl
  · split
    · rw [if_pos (by omega)]; rfl
    · split
      · rw [if_pos (by omega)]; rfl
      · rw [if_neg (by omega)]; rfl
theorem i_attitudes (k : Int) : PCall Tryz.prog n_i_attitudes [I k] (.own 1 ((attitudes k).map S)) := by
  refine PCall.of fn_i_attitudes (by simp) ?_
  by_cases h1 : k = 1
  · simp [c_i_attitudes, r_i_attitudes_0, r_i_attitudes_1, r_i_attitudes_2, r_i_attitudes_3, r_i_attitudes_4, r_i_attitudes_5, r_i_attitudes_6, r_i_attitudes_7, r_i_attitudes_8, h1, attitudes]
  by_cases h2 : k = 2
  · simp [c_i_attitudes, r_i_attitudes_0, r_i_attitudes_1, r_i_attitudes_2, r_i_attitudes_3, r_i_attitudes_4, r_i_attitudes_5, r_i_attitudes_6, r_i_attitudes_7, r_i_attitudes_8, h2, attitudes]
  by_cases h3 : k = 3
  · simp [c_i_attitudes, r_i_attitudes_0, r_i_attitudes_1, r_i_attitudes_2, r_i_attitudes_3, r_i_attitudes_4, r_i_attitudes_5, r_i_attitudes_6, r_i_attitudes_7, r_i_attitudes_8, h3, attitudes]
  simp [c_i_attitudes, r_i_attitudes_0, r_i_attitudes_1, r_i_attitudes_2, r_i_attitudes_3, r_i_attitudes_4, r_i_attitudes_5, r_i_attitudes_6, r_i_attitudes_7, r_i_attitudes_8, h1, h2, h3, attitudes]

theorem s_l3Good (f : Field) : PCall Tryz.prog n_s_l3Good [eField f] (B (fieldOk f)) := by
  refine PCall.of fn_s_l3Good (by simp) ?_
  simp [c_s_l3Good, r_s_l3Good_0, r_s_l3Good_1]
  refine callQ_v (s_l1In ..) ?_
  cases h1 : inR f.division 0 7 with
  | false => simp [r_s_l3Good_2, fieldOk, h1]
  | true =>
  simp
  refine callQ_v (s_l3Line ..) ?_
  cases h2 : inR f.line 0 4 with
  | false => simp [r_s_l3Good_2, fieldOk, h2]
  | true =>
  simp
  refine callQ_v (s_l2Good ..) ?_
  cases h3 : inR f.first 1 9 with
  | false => simp [r_s_l3Good_2, fieldOk, h3]
  | true =>
  simp [r_s_l3Good_3]
  refine ⟨fun h4 => ?_, fun h4 => ?_⟩
  · by_cases h5 : f.line = 0
    · simp [r_s_l3Good_4, fieldOk, h1, h2, h3, h4, h5, show inR 0 0 7 = true from rfl, show inR 0 0 4 = true from rfl]
    · simp [r_s_l3Good_4, fieldOk, h1, h2, h3, h4, h5]
  · simp [r_s_l3Good_5]
    refine callQ_v (s_l2Good ..) ?_
    cases h5 : inR f.second 1 9 with
    | false => simp [fieldOk, h1, h2, h3, h4, h5]
    | true =>
      simp [fieldOk, h1, h2, h3, h4, h5]

theorem i_IsValidField (f : Field) : PCall Tryz.prog n_i_IsValidField [eField f] (B (fieldOk f)) := by
  refine PCall.of fn_i_IsValidField (by simp) ?_
  simp [c_i_IsValidField, r_i_IsValidField_0, r_i_IsValidField_1]
  refine callQ_v (i_inside ..) ?_
  cases h1 : inR f.division 0 7 with
  | false => simp [r_i_IsValidField_2, fieldOk, h1]
  | true =>
  simp
  refine callQ_v (i_isLine ..) ?_
  cases h2 : inR f.line 0 4 with
  | false => simp [r_i_IsValidField_2, fieldOk, h2]
  | true =>
  simp
  refine callQ_v (i_IsTincture ..) ?_
  cases h3 : inR f.first 1 9 with
  | false => simp [r_i_IsValidField_2, fieldOk, h3]
  | true =>
  simp [r_i_IsValidField_3]
  refine ⟨fun h4 => ?_, fun h4 => ?_⟩
  · by_cases h5 : f.line = 0
    · simp [r_i_IsValidField_4, fieldOk, h1, h2, h3, h4, h5, show inR 0 0 7 = true from rfl, show inR 0 0 4 = true from rfl]
    · simp [r_i_IsValidField_4, fieldOk, h1, h2, h3, h4, h5]
  · simp [r_i_IsValidField_5]
    refine callQ_v (i_IsTincture ..) ?_
    cases h5 : inR f.second 1 9 with
    | false => simp [fieldOk, h1, h2, h3, h4, h5]
    | true =>
      simp [fieldOk, h1, h2, h3, h4, h5]

theorem s_l4Group (g : Group) : PCall Tryz.prog n_s_l4Group [eGroup g] (B (groupOk g)) := by
  refine PCall.of fn_s_l4Group (by simp) ?_
  simp [c_s_l4Group, r_s_l4Group_0, r_s_l4Group_1]
  refine callQ_v (s_l1In ..) ?_
  cases h1 : inR g.count 1 6 with
  | false => simp [r_s_l4Group_2, groupOk, h1]
  | true =>
  simp
  refine callQ_v (s_l4Kind ..) ?_
  cases h2 : inR g.kind 1 8 with
  | false => simp [r_s_l4Group_2, groupOk, h2]
  | true =>
  simp
  refine callQ_v (s_l2Good ..) ?_
  cases h3 : inR g.tincture 1 9 with
  | false => simp [r_s_l4Group_2, groupOk, h3]
  | true =>
  simp [r_s_l4Group_3]
  refine callQ_v (s_l4Beast ..) ?_
  simp
  refine ⟨fun h4 => ?_, fun h4 => ?_⟩
  · simp [r_s_l4Group_4]
    refine callQ_v (s_l1In ..) ?_
    simp [groupOk, h1, h2, h3, h4]
  · have h4' : ¬ g.kind ≤ 3 := by omega
    simp [r_s_l4Group_5, groupOk, h1, h2, h3, h4']

theorem i_IsValidGroup (g : Group) : PCall Tryz.prog n_i_IsValidGroup [eGroup g] (B (groupOk g)) := by
  refine PCall.of fn_i_IsValidGroup (by simp) ?_
  simp [c_i_IsValidGroup, r_i_IsValidGroup_0, r_i_IsValidGroup_1]
  refine callQ_v (i_inside ..) ?_
  cases h1 : inR g.count 1 6 with
  | false => simp [r_i_IsValidGroup_2, groupOk, h1]
  | true =>
  simp
  refine callQ_v (i_isKind ..) ?_
  cases h2 : inR g.kind 1 8 with
  | false => simp [r_i_IsValidGroup_2, groupOk, h2]
  | true =>
  have h2' := inR_iff.1 h2
  simp
  refine callQ_v (i_IsTincture ..) ?_
  cases h3 : inR g.tincture 1 9 with
  | false => simp [r_i_IsValidGroup_2, groupOk, h3]
  | true =>
  simp [r_i_IsValidGroup_3]
  have hl := attitudes_len g.kind
  have hc := i_attitudes g.kind
  generalize attitudes g.kind = l at hl hc
  refine callQ_of (PCall.arg hc (by simp)) rfl (.inl (by simp)) (by simp) ?_
  simp [hl]
  by_cases h4 : g.kind ≤ 3
  · simp [r_i_IsValidGroup_4, r_i_IsValidGroup_5, hl, h2', h4]
    refine callQ_v (i_inside ..) ?_
    simp [groupOk, h1, h2, h3, h4]
  · simp [r_i_IsValidGroup_4, hl, h2', h4]
    simp [r_i_IsValidGroup_6, groupOk, h1, h2, h3, h4]

theorem i_isGroup (g : Group) : PCall Tryz.prog n_i_isGroup [eGroup g] (B (g0 g || groupOk g)) := by
  refine PCall.of fn_i_isGroup (by simp) ?_
  cases h : g0 g with
  | true =>
    have e : (g.count == 0 && (g.kind == 0 && (g.attitude == 0 && g.tincture == 0))) = true := h
    simp only [Bool.and_eq_true, beq_iff_eq] at e
    obtain ⟨e1, e2, e3, e4⟩ := e
    simp [c_i_isGroup, r_i_isGroup_0, r_i_isGroup_1, e1, e2, e3, e4]
  | false =>
    have e : (g.count == 0 && (g.kind == 0 && (g.attitude == 0 && g.tincture == 0))) = false := h
    simp [c_i_isGroup, r_i_isGroup_0, r_i_isGroup_1, e]
    exact callQ_v (PCall.arg (i_IsValidGroup g) (by simp)) (by simp)
theorem i_isOrdinary (x l t : Int) : PCall Tryz.prog n_i_isOrdinary [I x, I l, I t] (B (inR x 1 7 && inR l 0 4 && inR t 1 9)) := by
  refine PCall.of fn_i_isOrdinary (by simp) ?_
  simp [c_i_isOrdinary, r_i_isOrdinary_0, r_i_isOrdinary_1]
  refine callQ_v (i_inside ..) ?_
  cases h1 : inR x 1 7 with
  | false => simp
  | true =>
  simp
  refine callQ_v (i_isLine ..) ?_
  cases h2 : inR l 0 4 with
  | false => simp
  | true =>
  simp
  exact callQ_v (i_IsTincture ..) (by simp)

theorem i_IsValidArms (a : Arms) : PCall Tryz.prog n_i_IsValidArms [eArms a] (B (arms a)) := by
  refine PCall.of fn_i_IsValidArms (by simp) ?_
  simp [c_i_IsValidArms, r_i_IsValidArms_0, r_i_IsValidArms_1]
  refine callQ_v (PCall.arg (i_IsValidField a.field) (by simp)) ?_
  cases h1 : fieldOk a.field with
  | false => simp [r_i_IsValidArms_2, arms, h1]
  | true =>
  simp
  refine callQ_v (PCall.arg (i_isGroup a.around) (by simp)) ?_
  cases h2 : (g0 a.around || groupOk a.around) with
  | false => simp [r_i_IsValidArms_2, arms, h2]
  | true =>
  simp [r_i_IsValidArms_3]
  refine ⟨fun h3 => ?_, fun h3 => ?_⟩
  · have e : (a.on.count == 0 && (a.on.kind == 0 && (a.on.attitude == 0 && a.on.tincture == 0))) = g0 a.on := rfl
    by_cases h4 : a.line = 0
    · by_cases h5 : a.tincture = 0
      · simp [r_i_IsValidArms_4, h4, h5, e]
        simp [arms, h1, h2, h3, h4, h5]
      · simp [r_i_IsValidArms_4, h4, h5, arms, h3]
    · simp [r_i_IsValidArms_4, h4, arms, h3]
  · simp [r_i_IsValidArms_5]
    refine callQ_v (i_isOrdinary ..) ?_
    cases h4 : (inR a.ordinary 1 7 && inR a.line 0 4 && inR a.tincture 1 9) with
    | false =>
      have : arms a = false := by simp only [arms, h3, if_false, h4, Bool.false_and, Bool.and_false]
      simp [this]
    | true =>
      simp
      refine callQ_v (PCall.arg (i_isGroup a.on) (by simp)) ?_
      have : arms a = (g0 a.on || groupOk a.on) := by simp only [arms, h1, h2, h3, if_false, h4, Bool.true_and]
      simp [this]

theorem s_l5Good (a : Arms) : PCall Tryz.prog n_s_l5Good [eArms a] (B (arms a)) := by
  refine PCall.of fn_s_l5Good (by simp) ?_
  simp [c_s_l5Good, r_s_l5Good_0, r_s_l5Good_1]
  refine callQ_v (PCall.arg (s_l3Good a.field) (by simp)) ?_
  cases h1 : fieldOk a.field with
  | false => simp [r_s_l5Good_2, arms, h1]
  | true =>
  simp
  refine callQ_v (s_l1In ..) ?_
  cases h0 : inR a.ordinary 0 7 with
  | false =>
    have h0' := inR_not.1 h0
    have h3 : ¬ a.ordinary = 0 := by omega
    have h4 : inR a.ordinary 1 7 = false := inR_not.2 (by omega)
    simp [r_s_l5Good_2, arms, h3, h4]
  | true =>
  have h0' := inR_iff.1 h0
  simp
  refine callQ_v (PCall.arg (s_l4None a.around) (by simp)) ?_
  cases hN : g0 a.around with
  | true =>
    have hA : (g0 a.around || groupOk a.around) = true := by rw [hN]; rfl
    simp [r_s_l5Good_3]
    refine ⟨fun h3 => ?_, fun h3 => ?_⟩
    · by_cases h4 : a.line = 0
      · by_cases h5 : a.tincture = 0
        · simp [r_s_l5Good_4, h4, h5]
          refine callQ_v (PCall.arg (s_l4None a.on) (by simp)) ?_
          simp [arms, h1, hA, h3, h4, h5]
        · simp [r_s_l5Good_4, h4, h5, arms, h3]
      · simp [r_s_l5Good_4, h4, arms, h3]
    · have h0 : inR a.ordinary 1 7 = true := inR_iff.2 (by omega)
      simp [r_s_l5Good_5]
      refine callQ_v (s_l3Line ..) ?_
      cases h4 : inR a.line 0 4 with
      | false => simp [arms, h3, h4]
      | true =>
      simp
      refine callQ_v (s_l2Good ..) ?_
      cases h5 : inR a.tincture 1 9 with
      | false => simp [arms, h3, h5]
      | true =>
      simp
      refine callQ_v (PCall.arg (s_l4None a.on) (by simp)) ?_
      cases h6 : g0 a.on with
      | true => simp [arms, h0, h1, hA, h3, h4, h5, h6]
      | false =>
      simp
      refine callQ_v (PCall.arg (s_l4Group a.on) (by simp)) ?_
      simp [arms, h0, h1, hA, h3, h4, h5, h6]
  | false =>
    simp
    refine callQ_v (PCall.arg (s_l4Group a.around) (by simp)) ?_
    cases hG : groupOk a.around with
    | false => simp [r_s_l5Good_2, arms, hN, hG]
    | true =>
      have hA : (g0 a.around || groupOk a.around) = true := by rw [hN, hG]; rfl
      simp [r_s_l5Good_3]
      refine ⟨fun h3 => ?_, fun h3 => ?_⟩
      · by_cases h4 : a.line = 0
        · by_cases h5 : a.tincture = 0
          · simp [r_s_l5Good_4, h4, h5]
            refine callQ_v (PCall.arg (s_l4None a.on) (by simp)) ?_
            simp [arms, h1, hA, h3, h4, h5]
          · simp [r_s_l5Good_4, h4, h5, arms, h3]
        · simp [r_s_l5Good_4, h4, arms, h3]
      · have h0 : inR a.ordinary 1 7 = true := inR_iff.2 (by omega)
        simp [r_s_l5Good_5]
        refine callQ_v (s_l3Line ..) ?_
        cases h4 : inR a.line 0 4 with
        | false => simp [arms, h3, h4]
        | true =>
        simp
        refine callQ_v (s_l2Good ..) ?_
        cases h5 : inR a.tincture 1 9 with
        | false => simp [arms, h3, h5]
        | true =>
        simp
        refine callQ_v (PCall.arg (s_l4None a.on) (by simp)) ?_
        cases h6 : g0 a.on with
        | true => simp [arms, h0, h1, hA, h3, h4, h5, h6]
        | false =>
        simp
        refine callQ_v (PCall.arg (s_l4Group a.on) (by simp)) ?_
        simp [arms, h0, h1, hA, h3, h4, h5, h6]

/-! ### Fees -/
end Go.Proofs.YtbeoijlggphklaaGreatDoor

/- The texts of arms. -/
set_option linter.unusedVariables false
set_option linter.unusedSimpArgs false
namespace Go.Proofs.YtbeoijlggphklaaGreatDoor
open Go.Abs

def tincL : List (List UInt8) := [[103, 111, 108, 100], [115, 105, 108, 118, 101, 114], [114, 101, 100], [98, 108, 117, 101], [98, 108, 97, 99, 107], [103, 114, 101, 101, 110], [112, 117, 114, 112, 108, 101], [101, 114, 109, 105, 110, 101], [118, 97, 105, 114]]
def lineL : List (List UInt8) := [[101, 110, 103, 114, 97, 105, 108, 101, 100], [119, 97, 118, 121], [101, 109, 98, 97, 116, 116, 108, 101, 100], [105, 110, 100, 101, 110, 116, 101, 100]]
def divL : List (List UInt8) := [[112, 101, 114, 32, 112, 97, 108, 101], [112, 101, 114, 32, 102, 101, 115, 115], [112, 101, 114, 32, 98, 101, 110, 100], [113, 117, 97, 114, 116, 101, 114, 108, 121], [112, 101, 114, 32, 115, 97, 108, 116, 105, 114, 101], [112, 97, 108, 121], [98, 97, 114, 114, 121]]
def kindL : List (List UInt8) := [[108, 105, 111, 110], [101, 97, 103, 108, 101], [102, 105, 115, 104], [114, 111, 115, 101], [115, 116, 97, 114], [116, 111, 119, 101, 114], [107, 101, 121], [115, 119, 111, 114, 100]]
def countL : List (List UInt8) := [[97], [116, 119, 111], [116, 104, 114, 101, 101], [102, 111, 117, 114], [102, 105, 118, 101], [115, 105, 120]]
def ordL : List (List UInt8) := [[112, 97, 108, 101], [102, 101, 115, 115], [98, 101, 110, 100], [99, 104, 101, 118, 114, 111, 110], [99, 114, 111, 115, 115], [115, 97, 108, 116, 105, 114, 101], [99, 104, 105, 101, 102]]
def tincW (x : Int) : List UInt8 := tincL.getD (x - 1).toNat []
def lineW (x : Int) : List UInt8 := lineL.getD (x - 1).toNat []
def divW (x : Int) : List UInt8 := divL.getD (x - 1).toNat []
def kindW (k c : Int) : List UInt8 := kindL.getD (k - 1).toNat [] ++ (if 1 < c ∧ k ≠ 3 then [115] else [])
def countW (c k : Int) : List UInt8 := if c = 1 ∧ k = 2 then [97, 110] else countL.getD (c - 1).toNat []
def ordW (x : Int) : List UInt8 := ordL.getD (x - 1).toNat []
def withL (t : List UInt8) (x : Int) : List UInt8 := if x = 0 then t else t ++ 32 :: lineW x
/-- The text of a field. -/
def fieldT (f : Field) : List UInt8 := if f.division = 0 then tincW f.first else withL (divW f.division) f.line ++ 32 :: (tincW f.first ++ [32, 97, 110, 100, 32] ++ tincW f.second)
/-- The text of a group. -/
def groupT (g : Group) : List UInt8 := countW g.count g.kind ++ 32 :: (kindW g.kind g.count ++ (if 0 < g.attitude then 32 :: (attitudes g.kind).getD (g.attitude - 1).toNat [] else []) ++ 32 :: tincW g.tincture)
/-- The text of an ordinary. -/
def ordT (o l : Int) : List UInt8 := withL ([97, 32] ++ ordW o) l
def joinT (o : Int) : List UInt8 := if o = 0 then [44, 32] else if o = 7 then [32, 97, 98, 111, 118, 101, 32] else [32, 98, 101, 116, 119, 101, 101, 110, 32]
/-- The text of arms. -/
def armsT (a : Arms) : List UInt8 := fieldT a.field ++ (if a.ordinary = 0 then [] else [44, 32] ++ ordT a.ordinary a.line ++ 32 :: tincW a.tincture) ++ (if g0 a.on then [] else [32, 99, 104, 97, 114, 103, 101, 100, 32, 119, 105, 116, 104, 32] ++ groupT a.on) ++ (if g0 a.around then [] else joinT a.ordinary ++ groupT a.around)
theorem getD_len {l : List (List UInt8)} {m : Nat} (h : ∀ x ∈ l, x.length ≤ m) (i : Nat) : (l.getD i []).length ≤ m := by
  rw [List.getD_eq_getElem?_getD]
  cases hi : l[i]? with
  | none => simp
  | some x => exact h x (List.mem_of_getElem? hi)
theorem tincW_len (x : Int) : (tincW x).length ≤ 12 := getD_len (by decide) _
theorem lineW_len (x : Int) : (lineW x).length ≤ 12 := getD_len (by decide) _
theorem divW_len (x : Int) : (divW x).length ≤ 12 := getD_len (by decide) _
theorem ordW_len (x : Int) : (ordW x).length ≤ 12 := getD_len (by decide) _
theorem kindW_len (k c : Int) : (kindW k c).length ≤ 13 := by
  have := getD_len (l := kindL) (m := 12) (by decide) (k - 1).toNat
  unfold kindW
  rw [List.length_append]
  split <;> simp only [List.length_singleton, List.length_nil] <;> omega
theorem countW_len (c k : Int) : (countW c k).length ≤ 12 := by
  unfold countW
  split
  · decide
  · exact getD_len (by decide) _
theorem attW_len (k : Int) (i : Nat) : ((attitudes k).getD i []).length ≤ 12 := getD_len (by
  unfold attitudes
  split
  · decide
  · split
    · decide
    · split
      · decide
      · simp) _
theorem withL_len (t : List UInt8) (x : Int) : (withL t x).length ≤ t.length + 13 := by
  have := lineW_len x
  unfold withL
  split <;> simp <;> omega
theorem fieldT_len (f : Field) : (fieldT f).length ≤ 60 := by
  have h1 := tincW_len f.first
  have h2 := tincW_len f.second
  have h3 := divW_len f.division
  have h4 := withL_len (divW f.division) f.line
  unfold fieldT
  split
  · omega
  · simp; omega
theorem groupT_len (g : Group) : (groupT g).length ≤ 60 := by
  have h1 := countW_len g.count g.kind
  have h2 := kindW_len g.kind g.count
  have h3 := attW_len g.kind (g.attitude - 1).toNat
  have h4 := tincW_len g.tincture
  unfold groupT
  split <;> simp only [List.length_append, List.length_cons, List.length_nil] <;> omega
theorem ordT_len (o l : Int) : (ordT o l).length ≤ 30 := by
  have h1 := ordW_len o
  have h2 := withL_len ([97, 32] ++ ordW o) l
  unfold ordT
  simp at h2 ⊢; omega
theorem joinT_len (o : Int) : (joinT o).length ≤ 10 := by unfold joinT; split <;> (try split) <;> decide
theorem armsT_len (a : Arms) : (armsT a).length ≤ 300 := by
  have h1 := fieldT_len a.field
  have h2 := ordT_len a.ordinary a.line
  have h3 := tincW_len a.tincture
  have h4 := groupT_len a.on
  have h5 := groupT_len a.around
  have h6 := joinT_len a.ordinary
  unfold armsT
  split <;> split <;> split <;> simp <;> omega

/-! ### Words out of lists -/
theorem lit_tinc {d : Int} (h : 1 ≤ d ∧ d ≤ 9) : ([S [103, 111, 108, 100], S [115, 105, 108, 118, 101, 114], S [114, 101, 100], S [98, 108, 117, 101], S [98, 108, 97, 99, 107], S [103, 114, 101, 101, 110], S [112, 117, 114, 112, 108, 101], S [101, 114, 109, 105, 110, 101], S [118, 97, 105, 114]] : List V)[(d - 1).toNat]? = some (S (tincW d)) := by
  obtain rfl | rfl | rfl | rfl | rfl | rfl | rfl | rfl | rfl : d = 1 ∨ d = 2 ∨ d = 3 ∨ d = 4 ∨ d = 5 ∨ d = 6 ∨ d = 7 ∨ d = 8 ∨ d = 9 := by omega
  all_goals rfl
theorem lit_line0 {d : Int} (h : 1 ≤ d ∧ d ≤ 4) : ([S [], S [101, 110, 103, 114, 97, 105, 108, 101, 100], S [119, 97, 118, 121], S [101, 109, 98, 97, 116, 116, 108, 101, 100], S [105, 110, 100, 101, 110, 116, 101, 100]] : List V)[d.toNat]? = some (S (lineW d)) := by
  obtain rfl | rfl | rfl | rfl : d = 1 ∨ d = 2 ∨ d = 3 ∨ d = 4 := by omega
  all_goals rfl
theorem lit_div0 {d : Int} (h : 1 ≤ d ∧ d ≤ 7) : ([S [], S [112, 101, 114, 32, 112, 97, 108, 101], S [112, 101, 114, 32, 102, 101, 115, 115], S [112, 101, 114, 32, 98, 101, 110, 100], S [113, 117, 97, 114, 116, 101, 114, 108, 121], S [112, 101, 114, 32, 115, 97, 108, 116, 105, 114, 101], S [112, 97, 108, 121], S [98, 97, 114, 114, 121]] : List V)[d.toNat]? = some (S (divW d)) := by
  obtain rfl | rfl | rfl | rfl | rfl | rfl | rfl : d = 1 ∨ d = 2 ∨ d = 3 ∨ d = 4 ∨ d = 5 ∨ d = 6 ∨ d = 7 := by omega
  all_goals rfl
theorem lit_ord0 {d : Int} (h : 1 ≤ d ∧ d ≤ 7) : ([S [], S [112, 97, 108, 101], S [102, 101, 115, 115], S [98, 101, 110, 100], S [99, 104, 101, 118, 114, 111, 110], S [99, 114, 111, 115, 115], S [115, 97, 108, 116, 105, 114, 101], S [99, 104, 105, 101, 102]] : List V)[d.toNat]? = some (S (ordW d)) := by
  obtain rfl | rfl | rfl | rfl | rfl | rfl | rfl : d = 1 ∨ d = 2 ∨ d = 3 ∨ d = 4 ∨ d = 5 ∨ d = 6 ∨ d = 7 := by omega
  all_goals rfl
theorem lit_kind {d : Int} (h : 1 ≤ d ∧ d ≤ 8) : ([S [108, 105, 111, 110], S [101, 97, 103, 108, 101], S [102, 105, 115, 104], S [114, 111, 115, 101], S [115, 116, 97, 114], S [116, 111, 119, 101, 114], S [107, 101, 121], S [115, 119, 111, 114, 100]] : List V)[(d - 1).toNat]? = some (S (kindL.getD (d - 1).toNat [])) := by
  obtain rfl | rfl | rfl | rfl | rfl | rfl | rfl | rfl : d = 1 ∨ d = 2 ∨ d = 3 ∨ d = 4 ∨ d = 5 ∨ d = 6 ∨ d = 7 ∨ d = 8 := by omega
  all_goals rfl
theorem lit_count {d : Int} (h : 1 ≤ d ∧ d ≤ 6) : ([S [97], S [116, 119, 111], S [116, 104, 114, 101, 101], S [102, 111, 117, 114], S [102, 105, 118, 101], S [115, 105, 120]] : List V)[(d - 1).toNat]? = some (S (countL.getD (d - 1).toNat [])) := by
  obtain rfl | rfl | rfl | rfl | rfl | rfl : d = 1 ∨ d = 2 ∨ d = 3 ∨ d = 4 ∨ d = 5 ∨ d = 6 := by omega
  all_goals rfl
/-! ### The reference -/
theorem s_l2Word (x : Int) (h : inR x 1 9 = true) : PCall Tryz.prog n_s_l2Word [I x] (S (tincW x)) := by
  have h' := inR_iff.1 h
  refine PCall.of fn_s_l2Word (by simp) ?_
  simp [c_s_l2Word, r_s_l2Word_0, r_s_l2Word_1]
  rw [wrap64 (n := x - 1) (by omega) (by omega), lit_tinc h']
  exact ⟨by omega, by simp⟩
theorem s_l3LineWord (x : Int) (h : 1 ≤ x ∧ x ≤ 4) : PCall Tryz.prog n_s_l3LineWord [I x] (S (lineW x)) := by
  refine PCall.of fn_s_l3LineWord (by simp) ?_
  simp [c_s_l3LineWord, r_s_l3LineWord_0, r_s_l3LineWord_1]
  rw [lit_line0 h]
  exact ⟨by omega, by simp⟩
set_option maxHeartbeats 1000000 in
theorem s_l3Text (f : Field) (h : fieldOk f = true) : PCall Tryz.prog n_s_l3Text [eField f] (S (fieldT f)) := by
  simp only [fieldOk, Bool.and_eq_true, inR_iff] at h
  obtain ⟨⟨⟨h1, h2⟩, h3⟩, h4⟩ := h
  have b1 := tincW_len f.first
  have b2 := tincW_len f.second
  have b3 := divW_len f.division
  have b4 := lineW_len f.line
  refine PCall.of fn_s_l3Text (by simp) ?_
  by_cases h0 : f.division = 0
  · simp [c_s_l3Text, r_s_l3Text_0, r_s_l3Text_1, r_s_l3Text_2, h0]
    exact callQ_v (PCall.arg (s_l2Word f.first (inR_iff.2 h3)) (by simp)) (by simp [fieldT, h0])
  · rw [if_neg h0] at h4
    simp only [Bool.and_eq_true, inR_iff] at h4
    simp [c_s_l3Text, r_s_l3Text_0, r_s_l3Text_1, r_s_l3Text_3, h0]
    rw [lit_div0 (d := f.division) (by omega)]
    refine ⟨by omega, ?_⟩
    simp [r_s_l3Text_4]
    by_cases hl : f.line = 0
    · refine ⟨fun h => by omega, fun _ => ?_⟩
      simp [r_s_l3Text_6, p_s_l3Text_6]
      repeat (refine ⟨by omega, ?_⟩)
      refine callD_v (PCall.arg (s_l2Word f.first (inR_iff.2 h3)) (by simp)) ?_ ?_ ?_
      · simp
      · simp
      simp
      repeat (refine ⟨by omega, ?_⟩)
      refine callD_v (PCall.arg (s_l2Word f.second (inR_iff.2 h4.1)) (by simp)) ?_ ?_ ?_
      · simp
      · simp
      simp
      repeat (refine ⟨by omega, ?_⟩)
      refine ⟨oEnd_of (by simp [p_s_l3Text_6]) (by simp), ?_⟩
      simp [fieldT, withL, h0, hl]
    · refine ⟨fun _ => ?_, fun h => by omega⟩
      simp [r_s_l3Text_5]
      repeat (refine ⟨by omega, ?_⟩)
      refine callQ_v (PCall.arg (s_l3LineWord f.line (by omega)) (by simp)) ?_
      simp
      repeat (refine ⟨by omega, ?_⟩)
      simp [r_s_l3Text_6, p_s_l3Text_6]
      repeat (refine ⟨by omega, ?_⟩)
      refine callD_v (PCall.arg (s_l2Word f.first (inR_iff.2 h3)) (by simp)) ?_ ?_ ?_
      · simp
      · simp
      simp
      repeat (refine ⟨by omega, ?_⟩)
      refine callD_v (PCall.arg (s_l2Word f.second (inR_iff.2 h4.1)) (by simp)) ?_ ?_ ?_
      · simp
      · simp
      simp
      repeat (refine ⟨by omega, ?_⟩)
      refine ⟨oEnd_of (by simp [p_s_l3Text_6]) (by simp), ?_⟩
      simp [fieldT, withL, h0, hl]
theorem s_l6Ordinary (o l : Int) (ho : 1 ≤ o ∧ o ≤ 7) (hl : 0 ≤ l ∧ l ≤ 4) : PCall Tryz.prog n_s_l6Ordinary [I o, I l] (S (ordT o l)) := by
  have b1 := ordW_len o
  have b2 := lineW_len l
  refine PCall.of fn_s_l6Ordinary (by simp) ?_
  simp [c_s_l6Ordinary, r_s_l6Ordinary_0, r_s_l6Ordinary_1]
  rw [lit_ord0 ho]
  repeat (refine ⟨by omega, ?_⟩)
  simp
  repeat (refine ⟨by omega, ?_⟩)
  simp [r_s_l6Ordinary_2]
  by_cases h0 : l = 0
  · refine ⟨fun h => by omega, fun _ => ?_⟩
    simp [r_s_l6Ordinary_4, ordT, withL, h0]
  · refine ⟨fun _ => ?_, fun h => by omega⟩
    simp [r_s_l6Ordinary_3]
    repeat (refine ⟨by omega, ?_⟩)
    refine callQ_v (PCall.arg (s_l3LineWord l (by omega)) (by simp)) ?_
    simp
    repeat (refine ⟨by omega, ?_⟩)
    simp [r_s_l6Ordinary_4, ordT, withL, h0]
theorem s_l6Join (o : Int) : PCall Tryz.prog n_s_l6Join [I o] (S (joinT o)) := by
  refine PCall.of fn_s_l6Join (by simp) ?_
  by_cases h0 : o = 0
  · simp [c_s_l6Join, r_s_l6Join_0, r_s_l6Join_1, r_s_l6Join_2, r_s_l6Join_3, r_s_l6Join_4, r_s_l6Join_5, r_s_l6Join_6, h0, joinT]
  · by_cases h7 : o = 7
    · simp [c_s_l6Join, r_s_l6Join_0, r_s_l6Join_1, r_s_l6Join_2, r_s_l6Join_3, r_s_l6Join_4, r_s_l6Join_5, r_s_l6Join_6, h7, joinT]
    · simp [c_s_l6Join, r_s_l6Join_0, r_s_l6Join_1, r_s_l6Join_2, r_s_l6Join_3, r_s_l6Join_4, r_s_l6Join_5, r_s_l6Join_6, h0, h7, joinT]
theorem s_l4Attitudes (k : Int) : PCall Tryz.prog n_s_l4Attitudes [I k] (.own 1 ((attitudes k).map S)) := by
  refine PCall.of fn_s_l4Attitudes (by simp) ?_
  by_cases h1 : k = 1
  · simp [c_s_l4Attitudes, r_s_l4Attitudes_0, r_s_l4Attitudes_1, r_s_l4Attitudes_2, r_s_l4Attitudes_3, r_s_l4Attitudes_4, r_s_l4Attitudes_5, r_s_l4Attitudes_6, r_s_l4Attitudes_7, r_s_l4Attitudes_8, h1, attitudes]
  by_cases h2 : k = 2
  · simp [c_s_l4Attitudes, r_s_l4Attitudes_0, r_s_l4Attitudes_1, r_s_l4Attitudes_2, r_s_l4Attitudes_3, r_s_l4Attitudes_4, r_s_l4Attitudes_5, r_s_l4Attitudes_6, r_s_l4Attitudes_7, r_s_l4Attitudes_8, h2, attitudes]
  by_cases h3 : k = 3
  · simp [c_s_l4Attitudes, r_s_l4Attitudes_0, r_s_l4Attitudes_1, r_s_l4Attitudes_2, r_s_l4Attitudes_3, r_s_l4Attitudes_4, r_s_l4Attitudes_5, r_s_l4Attitudes_6, r_s_l4Attitudes_7, r_s_l4Attitudes_8, h3, attitudes]
  simp [c_s_l4Attitudes, r_s_l4Attitudes_0, r_s_l4Attitudes_1, r_s_l4Attitudes_2, r_s_l4Attitudes_3, r_s_l4Attitudes_4, r_s_l4Attitudes_5, r_s_l4Attitudes_6, r_s_l4Attitudes_7, r_s_l4Attitudes_8, h1, h2, h3, attitudes]
theorem s_l4Word (k c : Int) (hk : 1 ≤ k ∧ k ≤ 8) : PCall Tryz.prog n_s_l4Word [I k, I c] (S (kindW k c)) := by
  have b := kindW_len k c
  have b0 := getD_len (l := kindL) (m := 12) (by decide) (k - 1).toNat
  refine PCall.of fn_s_l4Word (by simp) ?_
  simp [c_s_l4Word, r_s_l4Word_0, r_s_l4Word_1]
  rw [wrap64 (n := k - 1) (by omega) (by omega), lit_kind hk]
  repeat (refine ⟨by omega, ?_⟩)
  obtain ⟨w, hw⟩ : ∃ w, kindL.getD (k - 1).toNat [] = w := ⟨_, rfl⟩
  have e : kindW k c = w ++ (if 1 < c ∧ k ≠ 3 then [115] else []) := by rw [kindW, hw]
  rw [hw] at b0 ⊢
  rw [e]
  simp
  by_cases h1 : 1 < c
  · by_cases h3 : k = 3
    · simp [r_s_l4Word_2, r_s_l4Word_4, h1, h3]
    · simp [r_s_l4Word_2, r_s_l4Word_3, r_s_l4Word_4, h1, h3]
      omega
  · simp [r_s_l4Word_2, r_s_l4Word_4, h1]
theorem word_at' {l : List (List UInt8)} {i : Nat} (h : i < l.length) : l[i]? = some (l.getD i []) := by
  rw [List.getElem?_eq_getElem h, List.getD_eq_getElem?_getD, List.getElem?_eq_getElem h]
  rfl
theorem att_get {g : Group} (hg : groupOk g = true) (ha : 0 < g.attitude) : (g.attitude - 1).toNat < (attitudes g.kind).length ∧ ((attitudes g.kind).map S)[(g.attitude - 1).toNat]? = some (S ((attitudes g.kind).getD (g.attitude - 1).toNat [])) := by
  have hl := attitudes_len g.kind
  have h : (g.attitude - 1).toNat < (attitudes g.kind).length := by
    simp only [groupOk, Bool.and_eq_true, inR_iff] at hg
    obtain ⟨⟨⟨h1, h2⟩, h3⟩, h4⟩ := hg
    by_cases hk : g.kind ≤ 3
    · rw [if_pos hk] at h4
      rw [if_pos (by omega)] at hl
      have := inR_iff.1 h4
      omega
    · rw [if_neg hk] at h4
      have : g.attitude = 0 := by simpa using h4
      omega
  refine ⟨h, ?_⟩
  rw [List.getElem?_map, List.getElem?_eq_getElem h, List.getD_eq_getElem?_getD, List.getElem?_eq_getElem h]
  rfl
def bareT (g : Group) : List UInt8 := countW g.count g.kind ++ 32 :: (kindW g.kind g.count ++ (if 0 < g.attitude then 32 :: (attitudes g.kind).getD (g.attitude - 1).toNat [] else []))
theorem groupT_bare (g : Group) : groupT g = bareT g ++ 32 :: tincW g.tincture := by simp [groupT, bareT]
theorem groupOk_iff {g : Group} (h : groupOk g = true) : (1 ≤ g.count ∧ g.count ≤ 6) ∧ (1 ≤ g.kind ∧ g.kind ≤ 8) ∧ inR g.tincture 1 9 = true ∧ 0 ≤ g.attitude ∧ g.attitude ≤ 2 := by
  simp only [groupOk, Bool.and_eq_true, inR_iff] at h
  obtain ⟨⟨⟨h1, h2⟩, h3⟩, h4⟩ := h
  refine ⟨h1, h2, inR_iff.2 h3, ?_⟩
  split at h4
  · have := inR_iff.1 h4; omega
  · have : g.attitude = 0 := by simpa using h4
    omega
set_option maxHeartbeats 1000000 in
theorem s_l4Bare (g : Group) (h : groupOk g = true) : PCall Tryz.prog n_s_l4Bare [eGroup g] (S (bareT g)) := by
  obtain ⟨h1, h2, h3, h4⟩ := groupOk_iff h
  have b1 := countW_len g.count g.kind
  have b2 := kindW_len g.kind g.count
  have b3 := attW_len g.kind (g.attitude - 1).toNat
  refine PCall.of fn_s_l4Bare (by simp) ?_
  simp [c_s_l4Bare, r_s_l4Bare_0, r_s_l4Bare_1]
  rw [wrap64 (n := g.count - 1) (by omega) (by omega), lit_count h1]
  repeat (refine ⟨by omega, ?_⟩)
  obtain ⟨w, hw⟩ : ∃ w, countL.getD (g.count - 1).toNat [] = w := ⟨_, rfl⟩
  have e : countW g.count g.kind = if g.count = 1 ∧ g.kind = 2 then [97, 110] else w := by rw [countW, hw]
  rw [hw]
  obtain ⟨cw, hcw⟩ : ∃ cw, countW g.count g.kind = cw := ⟨_, rfl⟩
  have hB : bareT g = cw ++ 32 :: (kindW g.kind g.count ++ (if 0 < g.attitude then 32 :: (attitudes g.kind).getD (g.attitude - 1).toNat [] else [])) := by rw [bareT, hcw]
  rw [hcw] at b1 e
  rw [hB]
  simp
  rcases Classical.em (g.count = 1 ∧ g.kind = 2) with hc | hc
  case' inl =>
    rw [if_pos hc] at e
    simp [r_s_l4Bare_2, r_s_l4Bare_3, hc.1, hc.2]
    refine wk_of ⟨[(1, .ref 1 0 0), (3, S cw)], [(1, ⟨4, [eGroup g]⟩)], []⟩ (Wk.list rfl (by simp [e]) (by simp)) ?_
  case' inr =>
    rw [if_neg hc] at e
    have hc' : g.count = 1 → ¬ g.kind = 2 := fun a b => hc ⟨a, b⟩
    rcases Classical.em (g.count = 1) with hc1 | hc1
    case' inl =>
      simp [r_s_l4Bare_2, hc1, hc' hc1]
      refine wk_of ⟨[(1, .ref 1 0 0), (3, S cw)], [(1, ⟨4, [eGroup g]⟩)], []⟩ (Wk.list rfl (by simp [e]) (by simp)) ?_
    case' inr =>
      simp [r_s_l4Bare_2, hc1]
      refine wk_of ⟨[(1, .ref 1 0 0), (3, S cw)], [(1, ⟨4, [eGroup g]⟩)], []⟩ (Wk.list rfl (by simp [e]) (by simp)) ?_
  all_goals
    simp [r_s_l4Bare_4]
    repeat (refine ⟨by omega, ?_⟩)
    refine callQ_v (PCall.arg (s_l4Word g.kind g.count h2) (by simp)) ?_
    simp
    repeat (refine ⟨by omega, ?_⟩)
    simp [r_s_l4Bare_5]
    by_cases ha : 0 < g.attitude
    · obtain ⟨g1, g2⟩ := att_get h ha
      refine ⟨fun _ => ?_, fun h => by omega⟩
      simp [r_s_l4Bare_6, p_s_l4Bare_6]
      repeat (refine ⟨by omega, ?_⟩)
      refine callD_of (PCall.arg (s_l4Attitudes g.kind) (by simp)) rfl (.inl (by simp)) ?_ ?_ ?_
      · simp
      · simp
      simp
      rw [wrap64 (n := g.attitude - 1) (by omega) (by omega), word_at' g1]
      repeat (refine ⟨by omega, ?_⟩)
      obtain ⟨aw, haw⟩ : ∃ aw, (attitudes g.kind).getD (g.attitude - 1).toNat [] = aw := ⟨_, rfl⟩
      rw [haw] at b3 ⊢
      simp [ha]
      repeat (refine ⟨by omega, ?_⟩)
      refine ⟨oEnd_of (by simp [p_s_l4Bare_6]) (by simp), ?_⟩
      simp [r_s_l4Bare_7, ha]
    · refine ⟨fun h => by omega, fun _ => ?_⟩
      simp [r_s_l4Bare_7, ha]
theorem s_l4Text (g : Group) (h : groupOk g = true) : PCall Tryz.prog n_s_l4Text [eGroup g] (S (groupT g)) := by
  obtain ⟨h1, h2, h3, h4⟩ := groupOk_iff h
  have b0 := groupT_len g
  rw [groupT_bare] at b0 ⊢
  simp only [List.length_append, List.length_cons] at b0
  refine PCall.of fn_s_l4Text (by simp) ?_
  simp [c_s_l4Text, r_s_l4Text_0, r_s_l4Text_1, p_s_l4Text_1]
  refine callD_v (PCall.arg (s_l4Bare g h) (by simp)) ?_ ?_ ?_
  · simp
  · simp
  simp
  repeat (refine ⟨by omega, ?_⟩)
  refine callD_v (PCall.arg (s_l2Word g.tincture h3) (by simp)) ?_ ?_ ?_
  · simp
  · simp
  simp
  repeat (refine ⟨by omega, ?_⟩)
  exact oEnd_of (by simp [p_s_l4Text_1]) (by simp)
/-! ### The program's words -/
theorem i_tinctureWords : PCall Tryz.prog n_i_tinctureWords [] (.own 1 (tincL.map S)) := by
  refine PCall.of fn_i_tinctureWords (by simp) ?_
  simp [c_i_tinctureWords, r_i_tinctureWords_0, r_i_tinctureWords_1, tincL]
theorem i_lineWords : PCall Tryz.prog n_i_lineWords [] (.own 1 (lineL.map S)) := by
  refine PCall.of fn_i_lineWords (by simp) ?_
  simp [c_i_lineWords, r_i_lineWords_0, r_i_lineWords_1, lineL]
theorem i_divisionWords : PCall Tryz.prog n_i_divisionWords [] (.own 1 (divL.map S)) := by
  refine PCall.of fn_i_divisionWords (by simp) ?_
  simp [c_i_divisionWords, r_i_divisionWords_0, r_i_divisionWords_1, divL]
theorem i_ordinaryWords : PCall Tryz.prog n_i_ordinaryWords [] (.own 1 (ordL.map S)) := by
  refine PCall.of fn_i_ordinaryWords (by simp) ?_
  simp [c_i_ordinaryWords, r_i_ordinaryWords_0, r_i_ordinaryWords_1, ordL]
theorem i_kindWords : PCall Tryz.prog n_i_kindWords [] (.own 1 (kindL.map S)) := by
  refine PCall.of fn_i_kindWords (by simp) ?_
  simp [c_i_kindWords, r_i_kindWords_0, r_i_kindWords_1, kindL]
theorem i_tincture (x : Int) (h : inR x 1 9 = true) : PCall Tryz.prog n_i_tincture [I x] (S (tincW x)) := by
  have h' := inR_iff.1 h
  have hl : tincL.length = 9 := rfl
  have hw : tincL[(x - 1).toNat]? = some (tincW x) := word_at' (by omega)
  refine PCall.of fn_i_tincture (by simp) ?_
  simp [c_i_tincture, r_i_tincture_0, r_i_tincture_1]
  refine callQ_of i_tinctureWords rfl (.inl (by simp)) (by simp) ?_
  simp
  rw [wrap64 (n := x - 1) (by omega) (by omega), hw]
  exact ⟨by omega, by simp⟩
theorem i_withLine (t : List UInt8) (x : Int) (h : 0 ≤ x ∧ x ≤ 4) (ht : t.length ≤ 1000) : PCall Tryz.prog n_i_withLine [S t, I x] (S (withL t x)) := by
  have hl : lineL.length = 4 := rfl
  have b := lineW_len x
  refine PCall.of fn_i_withLine (by simp) ?_
  by_cases h0 : x = 0
  · simp [c_i_withLine, r_i_withLine_0, r_i_withLine_1, r_i_withLine_2, h0, withL]
  · have hw : lineL[(x - 1).toNat]? = some (lineW x) := word_at' (by omega)
    simp [c_i_withLine, r_i_withLine_0, r_i_withLine_1, r_i_withLine_3, h0]
    repeat (refine ⟨by omega, ?_⟩)
    refine callQ_of i_lineWords rfl (.inl (by simp)) (by simp) ?_
    simp
    repeat (refine ⟨by omega, ?_⟩)
    rw [wrap64 (n := x - 1) (by omega) (by omega), hw]
    repeat (refine ⟨by omega, ?_⟩)
    simp [withL, h0]
    try omega
theorem i_ordinaryStart (o l : Int) (ho : 1 ≤ o ∧ o ≤ 7) (hl : 0 ≤ l ∧ l ≤ 4) : PCall Tryz.prog n_i_ordinaryStart [I o, I l] (S (ordT o l)) := by
  have hL : ordL.length = 7 := rfl
  have b := ordW_len o
  have hw : ordL[(o - 1).toNat]? = some (ordW o) := word_at' (by omega)
  refine PCall.of fn_i_ordinaryStart (by simp) ?_
  simp [c_i_ordinaryStart, r_i_ordinaryStart_0, r_i_ordinaryStart_1]
  refine callQ_of i_ordinaryWords rfl (.inl (by simp)) (by simp) ?_
  simp
  rw [wrap64 (n := o - 1) (by omega) (by omega), hw]
  repeat (refine ⟨by omega, ?_⟩)
  simp
  repeat (refine ⟨by omega, ?_⟩)
  refine callQ_v (PCall.arg (i_withLine ([97, 32] ++ ordW o) l hl (by simp; omega)) (by simp)) ?_
  simp [ordT]
theorem i_countWord (c k : Int) (hc : 1 ≤ c ∧ c ≤ 6) : PCall Tryz.prog n_i_countWord [I c, I k] (S (countW c k)) := by
  refine PCall.of fn_i_countWord (by simp) ?_
  by_cases h1 : c = 1
  · by_cases h2 : k = 2
    · simp [c_i_countWord, r_i_countWord_0, r_i_countWord_1, r_i_countWord_2, h1, h2, countW]
    · simp [c_i_countWord, r_i_countWord_0, r_i_countWord_1, r_i_countWord_3, h1, h2, countW, countL]
      rw [show IntKind.i64.wrap 0 = 0 from rfl]
      simp [h1, h2, countW, countL]
  · have e : countW c k = countL.getD (c - 1).toNat [] := by rw [countW, if_neg (fun h => h1 h.1)]
    rw [e]
    simp [c_i_countWord, r_i_countWord_0, r_i_countWord_1, r_i_countWord_3, h1]
    rw [wrap64 (n := c - 1) (by omega) (by omega), lit_count hc]
    repeat (refine ⟨by omega, ?_⟩)
    simp
theorem i_kindWord (k c : Int) (hk : 1 ≤ k ∧ k ≤ 8) : PCall Tryz.prog n_i_kindWord [I k, I c] (S (kindW k c)) := by
  have hL : kindL.length = 8 := rfl
  have b0 := getD_len (l := kindL) (m := 12) (by decide) (k - 1).toNat
  have hk' : kindL[(k - 1).toNat]? = some (kindL.getD (k - 1).toNat []) := word_at' (by omega)
  obtain ⟨w, hw⟩ : ∃ w, kindL.getD (k - 1).toNat [] = w := ⟨_, rfl⟩
  have e : kindW k c = w ++ (if 1 < c ∧ k ≠ 3 then [115] else []) := by rw [kindW, hw]
  rw [hw] at b0 hk'
  rw [e]
  refine PCall.of fn_i_kindWord (by simp) ?_
  simp [c_i_kindWord, r_i_kindWord_0, r_i_kindWord_1]
  refine callQ_of i_kindWords rfl (.inl (by simp)) (by simp) ?_
  simp
  rw [wrap64 (n := k - 1) (by omega) (by omega), hk']
  repeat (refine ⟨by omega, ?_⟩)
  simp
  by_cases h1 : 1 < c
  · by_cases h3 : k = 3
    · simp [r_i_kindWord_2, r_i_kindWord_4, h1, h3]
    · simp [r_i_kindWord_2, r_i_kindWord_3, r_i_kindWord_4, h1, h3]
      omega
  · simp [r_i_kindWord_2, r_i_kindWord_4, h1]
end Go.Proofs.YtbeoijlggphklaaGreatDoor

/- The texts of arms, put together. -/
set_option linter.unusedVariables false
set_option linter.unusedSimpArgs false
namespace Go.Proofs.YtbeoijlggphklaaGreatDoor
open Go.Abs

set_option maxHeartbeats 1000000 in
theorem i_Field_text (f : Field) (h : fieldOk f = true) : PCall Tryz.prog n_i_Field_text [eField f] (S (fieldT f)) := by
  simp only [fieldOk, Bool.and_eq_true, inR_iff] at h
  obtain ⟨⟨⟨h1, h2⟩, h3⟩, h4⟩ := h
  have b1 := tincW_len f.first
  have b2 := tincW_len f.second
  have b3 := divW_len f.division
  have b4 := withL_len (divW f.division) f.line
  refine PCall.of fn_i_Field_text (by simp) ?_
  by_cases h0 : f.division = 0
  · simp [c_i_Field_text, r_i_Field_text_0, r_i_Field_text_1, r_i_Field_text_2, h0]
    exact callQ_v (PCall.arg (i_tincture f.first (inR_iff.2 h3)) (by simp)) (by simp [fieldT, h0])
  · rw [if_neg h0] at h4
    simp only [Bool.and_eq_true, inR_iff] at h4
    have hL : divL.length = 7 := rfl
    have hw : divL[(f.division - 1).toNat]? = some (divW f.division) := word_at' (by omega)
    simp [c_i_Field_text, r_i_Field_text_0, r_i_Field_text_1, r_i_Field_text_3, p_i_Field_text_3, h0]
    refine callD_of (PCall.arg (i_divisionWords) (by simp)) rfl (.inl (by simp)) ?_ ?_ ?_
    · simp
    · simp
    simp
    rw [wrap64 (n := f.division - 1) (by omega) (by omega), hw]
    repeat (refine ⟨by omega, ?_⟩)
    simp
    refine callD_v (PCall.arg (i_withLine (divW f.division) f.line (by omega) (by omega)) (by simp)) ?_ ?_ ?_
    · simp
    · simp
    simp
    repeat (refine ⟨by omega, ?_⟩)
    refine callD_v (PCall.arg (i_tincture f.first (inR_iff.2 h3)) (by simp)) ?_ ?_ ?_
    · simp
    · simp
    simp
    repeat (refine ⟨by omega, ?_⟩)
    refine callD_v (PCall.arg (i_tincture f.second (inR_iff.2 h4.1)) (by simp)) ?_ ?_ ?_
    · simp
    · simp
    simp
    repeat (refine ⟨by omega, ?_⟩)
    refine ⟨oEnd_of (by simp [p_i_Field_text_3]) (by simp), ?_⟩
    simp [fieldT, h0]
set_option maxHeartbeats 1000000 in
theorem i_Group_text (g : Group) (h : groupOk g = true) : PCall Tryz.prog n_i_Group_text [eGroup g] (S (groupT g)) := by
  obtain ⟨h1, h2, h3, h4⟩ := groupOk_iff h
  have b0 := groupT_len g
  have b1 := countW_len g.count g.kind
  have b2 := kindW_len g.kind g.count
  have b3 := attW_len g.kind (g.attitude - 1).toNat
  have b4 := tincW_len g.tincture
  refine PCall.of fn_i_Group_text (by simp) ?_
  simp [c_i_Group_text, r_i_Group_text_0, r_i_Group_text_1, p_i_Group_text_1]
  refine callD_v (PCall.arg (i_countWord g.count g.kind h1) (by simp)) ?_ ?_ ?_
  · simp
  · simp
  simp
  repeat (refine ⟨by omega, ?_⟩)
  refine callD_v (PCall.arg (i_kindWord g.kind g.count h2) (by simp)) ?_ ?_ ?_
  · simp
  · simp
  simp
  repeat (refine ⟨by omega, ?_⟩)
  refine ⟨oEnd_of (by simp [p_i_Group_text_1]) (by simp), ?_⟩
  simp [r_i_Group_text_2]
  by_cases ha : 0 < g.attitude
  · obtain ⟨g1, g2⟩ := att_get h ha
    refine ⟨fun _ => ?_, fun h => by omega⟩
    simp [r_i_Group_text_3, p_i_Group_text_3]
    refine callD_of (PCall.arg (i_attitudes g.kind) (by simp)) rfl (.inl (by simp)) ?_ ?_ ?_
    · simp
    · simp
    simp
    rw [wrap64 (n := g.attitude - 1) (by omega) (by omega), word_at' g1]
    repeat (refine ⟨by omega, ?_⟩)
    obtain ⟨aw, haw⟩ : ∃ aw, (attitudes g.kind).getD (g.attitude - 1).toNat [] = aw := ⟨_, rfl⟩
    have hG : groupT g = countW g.count g.kind ++ 32 :: (kindW g.kind g.count ++ (32 :: aw) ++ 32 :: tincW g.tincture) := by rw [groupT, haw, if_pos ha]
    rw [haw] at b3 ⊢
    rw [hG]
    simp
    repeat (refine ⟨by omega, ?_⟩)
    refine ⟨oEnd_of (by simp [p_i_Group_text_3]) (by simp), ?_⟩
    simp [r_i_Group_text_4]
    repeat (refine ⟨by omega, ?_⟩)
    refine callQ_v (PCall.arg (i_tincture g.tincture h3) (by simp)) ?_
    simp
    omega
  · have hG : groupT g = countW g.count g.kind ++ 32 :: (kindW g.kind g.count ++ [] ++ 32 :: tincW g.tincture) := by rw [groupT, if_neg ha]
    rw [hG]
    refine ⟨fun h => by omega, fun _ => ?_⟩
    simp [r_i_Group_text_4]
    repeat (refine ⟨by omega, ?_⟩)
    refine callQ_v (PCall.arg (i_tincture g.tincture h3) (by simp)) ?_
    simp
    omega
theorem arms_parts {a : Arms} (h : arms a = true) : (0 ≤ a.ordinary ∧ a.ordinary ≤ 7 ∧ (a.ordinary = 0 → g0 a.on = true) ∧ (a.ordinary ≠ 0 → (0 ≤ a.line ∧ a.line ≤ 4) ∧ inR a.tincture 1 9 = true)) ∧ (g0 a.on = false → groupOk a.on = true) ∧ (g0 a.around = false → groupOk a.around = true) := by
  simp only [arms, Bool.and_eq_true, Bool.or_eq_true] at h
  obtain ⟨⟨hf, har⟩, ho⟩ := h
  have hr : g0 a.around = false → groupOk a.around = true := fun e => har.resolve_left (by rw [e]; simp)
  by_cases h0 : a.ordinary = 0
  · rw [if_pos h0] at ho
    simp only [Bool.and_eq_true] at ho
    exact ⟨⟨by omega, by omega, fun _ => ho.2, fun h => absurd h0 h⟩, fun e => (by rw [ho.2] at e; cases e), hr⟩
  · rw [if_neg h0] at ho
    simp only [Bool.and_eq_true, Bool.or_eq_true] at ho
    obtain ⟨⟨⟨o1, o2⟩, o3⟩, o4⟩ := ho
    have o1 := inR_iff.1 o1
    have o2 := inR_iff.1 o2
    exact ⟨⟨by omega, by omega, fun h => absurd h h0, fun _ => ⟨o2, o3⟩⟩, fun e => o4.resolve_left (by rw [e]; simp), hr⟩
set_option maxHeartbeats 2000000 in
theorem s_l6Text (a : Arms) (h : arms a = true) : PCall Tryz.prog n_s_l6Text [eArms a] (S (armsT a)) := by
  have h' := h
  simp only [arms, Bool.and_eq_true] at h'
  obtain ⟨⟨hf, har⟩, ho⟩ := h'
  obtain ⟨hord, hon⟩ := arms_parts h
  have c1 := fieldT_len a.field
  have c2 := ordT_len a.ordinary a.line
  have c3 := tincW_len a.tincture
  have c4 := groupT_len a.on
  have c5 := groupT_len a.around
  have c6 := joinT_len a.ordinary
  obtain ⟨t1, ht1⟩ : ∃ t1, fieldT a.field ++ (if a.ordinary = 0 then [] else [44, 32] ++ ordT a.ordinary a.line ++ 32 :: tincW a.tincture) = t1 := ⟨_, rfl⟩
  obtain ⟨t2, ht2⟩ : ∃ t2, t1 ++ (if g0 a.on then [] else [32, 99, 104, 97, 114, 103, 101, 100, 32, 119, 105, 116, 104, 32] ++ groupT a.on) = t2 := ⟨_, rfl⟩
  have hT : armsT a = t2 ++ (if g0 a.around then [] else joinT a.ordinary ++ groupT a.around) := by rw [armsT, ht1, ht2]
  have d1 : t1.length ≤ 120 := by rw [← ht1]; split <;> simp <;> omega
  have d2 : t2.length ≤ 200 := by rw [← ht2]; split <;> simp <;> omega
  rw [hT]
  refine PCall.of fn_s_l6Text (by simp) ?_
  simp [c_s_l6Text, r_s_l6Text_0, r_s_l6Text_1]
  refine callQ_v (PCall.arg (s_l3Text a.field hf) (by simp)) ?_
  simp [r_s_l6Text_2]
  rcases Classical.em (a.ordinary = 0) with h0 | h0
  case' inl =>
    simp [h0]
    refine wk_of ⟨[(1, .ref 1 0 0), (3, S t1)], [(1, ⟨15, [eArms a]⟩)], []⟩ (Wk.list rfl (by simp [← ht1, h0]) (by simp)) ?_
  case' inr =>
    obtain ⟨hl, ht⟩ := hord.2.2.2 h0
    refine ⟨fun _ => ?a, fun h => absurd h (by omega)⟩
    case' a =>
      simp [r_s_l6Text_3, p_s_l6Text_3]
      repeat (refine ⟨by omega, ?_⟩)
      refine callD_v (PCall.arg (s_l6Ordinary a.ordinary a.line (by omega) hl) (by simp)) ?_ ?_ ?_
      · simp
      · simp
      simp
      repeat (refine ⟨by omega, ?_⟩)
      refine callD_v (PCall.arg (s_l2Word a.tincture ht) (by simp)) ?_ ?_ ?_
      · simp
      · simp
      simp
      repeat (refine ⟨by omega, ?_⟩)
      refine ⟨oEnd_of (by simp [p_s_l6Text_3]) (by simp), ?_⟩
      refine wk_of ⟨[(1, .ref 1 0 0), (3, S t1)], [(1, ⟨15, [eArms a]⟩)], []⟩ (Wk.list rfl (by simp [← ht1, h0]) (by simp)) ?_
  all_goals
    simp [r_s_l6Text_4]
    refine callQ_v (PCall.arg (s_l4None a.on) (by simp)) ?_
    rcases hg : g0 a.on with _ | _
    case' false =>
      simp [r_s_l6Text_5]
      repeat (refine ⟨by omega, ?_⟩)
      refine callQ_v (PCall.arg (s_l4Text a.on (hon.1 hg)) (by simp)) ?_
      simp
      repeat (refine ⟨by omega, ?_⟩)
      refine wk_of ⟨[(1, .ref 1 0 0), (3, S t2)], [(1, ⟨15, [eArms a]⟩)], []⟩ (Wk.list rfl (by simp [← ht2, hg]) (by simp)) ?_
    case' true =>
      simp
      refine wk_of ⟨[(1, .ref 1 0 0), (3, S t2)], [(1, ⟨15, [eArms a]⟩)], []⟩ (Wk.list rfl (by simp [← ht2, hg]) (by simp)) ?_
    all_goals
      simp [r_s_l6Text_6]
      refine callQ_v (PCall.arg (s_l4None a.around) (by simp)) ?_
      cases hr : g0 a.around with
      | true =>
        simp
        refine wk_of _ (Wk.refl _) ?_
        simp [r_s_l6Text_8]
      | false =>
        simp [r_s_l6Text_7, p_s_l6Text_7]
        refine callD_v (PCall.arg (s_l6Join a.ordinary) (by simp)) ?_ ?_ ?_
        · simp
        · simp
        simp
        repeat (refine ⟨by omega, ?_⟩)
        refine callD_v (PCall.arg (s_l4Text a.around (hon.2 hr)) (by simp)) ?_ ?_ ?_
        · simp
        · simp
        simp
        repeat (refine ⟨by omega, ?_⟩)
        refine ⟨oEnd_of (by simp [p_s_l6Text_7]) (by simp), ?_⟩
        refine wk_of _ (Wk.refl _) ?_
        simp [r_s_l6Text_8]
end Go.Proofs.YtbeoijlggphklaaGreatDoor

/- The compact code of the functions, and that it is theirs: written by a program of this claim. -/
namespace Go.Proofs.YtbeoijlggphklaaGreatDoor
open Go.Abs
set_option maxRecDepth 100000
def r_i_wrapped_0 : List CO := [⟨none, (some 4), (.mv (.k (.v (.slice none 0 0))))⟩]
def r_i_wrapped_1 : List CO := [⟨none, (some 9), (.bslice 1 (.v (.string (bs []))) 0 [])⟩, ⟨none, (some 5), (.mv (.t 9))⟩]
def r_i_wrapped_2 : List CO := [⟨none, (some 10), (.mv (.t 0))⟩, ⟨none, (some 11), (.call n_strings_Split [(.t 10), (.k (.v (.string (bs [32]))))])⟩, ⟨none, (some 12), (.len false (.t 11))⟩, ⟨none, (some 13), (.mv (.k (.v (.int .i64 (0)))))⟩]
def r_i_wrapped_3 : List CO := [⟨none, (some 14), (.bin .lss .none (.t 13) (.t 12))⟩]
def r_i_wrapped_4 : List CO := [⟨none, (some 15), (.iaddr 1 (.t 11) (.t 13))⟩, ⟨none, (some 16), (.ld false 1 (.t 15))⟩, ⟨none, (some 7), (.mv (.t 16))⟩]
def r_i_wrapped_5 : List CO := [⟨none, (some 17), (.mv (.t 5))⟩, ⟨none, (some 18), (.len false (.t 17))⟩, ⟨none, (some 8), (.mv (.t 18))⟩]
def r_i_wrapped_6 : List CO := [⟨none, (some 19), (.mv (.t 8))⟩, ⟨none, (some 20), (.bin .gtr .none (.t 19) (.k (.v (.int .i64 (0)))))⟩, ⟨none, (some 21), (.mv (.t 20))⟩, ⟨(some (21, true)), (some 22), (.mv (.t 5))⟩, ⟨(some (21, true)), (some 23), (.mv (.t 8))⟩, ⟨(some (21, true)), (some 24), (.bin .sub .none (.t 23) (.k (.v (.int .i64 (1)))))⟩, ⟨(some (21, true)), (some 25), (.iaddr 1 (.t 22) (.t 24))⟩, ⟨(some (21, true)), (some 26), (.ld false 1 (.t 25))⟩, ⟨(some (21, true)), (some 27), (.len true (.t 26))⟩, ⟨(some (21, true)), (some 28), (.bin .add .none (.t 27) (.k (.v (.int .i64 (1)))))⟩, ⟨(some (21, true)), (some 29), (.mv (.t 7))⟩, ⟨(some (21, true)), (some 30), (.len true (.t 29))⟩, ⟨(some (21, true)), (some 31), (.bin .add .none (.t 28) (.t 30))⟩, ⟨(some (21, true)), (some 32), (.mv (.t 1))⟩, ⟨(some (21, true)), (some 33), (.bin .leq .none (.t 31) (.t 32))⟩, ⟨none, (some 34), (.pick (.t 21) (.t 33) (.k (.v (.bool false))))⟩]
def r_i_wrapped_7 : List CO := [⟨none, (some 35), (.mv (.t 5))⟩, ⟨none, (some 36), (.mv (.t 8))⟩, ⟨none, (some 37), (.bin .sub .none (.t 36) (.k (.v (.int .i64 (1)))))⟩, ⟨none, (some 38), (.iaddr 1 (.t 35) (.t 37))⟩, ⟨none, (some 39), (.ld false 1 (.t 38))⟩, ⟨none, (some 40), (.mv (.t 7))⟩, ⟨none, (some 41), (.bin .add .none (.k (.v (.string (bs [32])))) (.t 40))⟩, ⟨none, (some 42), (.bin .add .none (.t 39) (.t 41))⟩, ⟨none, (some 43), (.iaddr 1 (.t 35) (.t 37))⟩, ⟨none, none, (.st 1 (.t 43) (.t 42))⟩]
def r_i_wrapped_8 : List CO := [⟨none, (some 44), (.mv (.t 5))⟩, ⟨none, (some 45), (.mv (.t 7))⟩, ⟨none, (some 46), (.bslice 1 (.v (.string (bs []))) 1 [(0, (.t 45))])⟩, ⟨none, (some 47), (.app 1 16 (.t 44) (.t 46))⟩, ⟨none, (some 5), (.mv (.t 47))⟩]
def r_i_wrapped_9 : List CO := [⟨none, (some 48), (.bin .add .none (.t 13) (.k (.v (.int .i64 (1)))))⟩, ⟨none, (some 13), (.mv (.t 48))⟩]
def l_i_wrapped_10 : C := (.seq (.reg r_i_wrapped_3 [1, 5, 11, 12, 13, 14]) (.seq (.cond (.t 14) .skip (.exit 0)) (.seq (.block 1 (.seq (.reg r_i_wrapped_4 [1, 5, 7, 11, 12, 13]) (.seq (.reg r_i_wrapped_5 [1, 5, 7, 8, 11, 12, 13]) (.seq (.reg r_i_wrapped_6 [1, 5, 7, 8, 11, 12, 13, 34]) (.cond (.t 34) (.reg r_i_wrapped_7 [1, 5, 11, 12, 13]) (.reg r_i_wrapped_8 [1, 5, 11, 12, 13])))))) (.reg r_i_wrapped_9 [1, 5, 11, 12, 13]))))
def r_i_wrapped_11 : List CO := [⟨none, (some 49), (.mv (.t 5))⟩, ⟨none, (some 4), (.mv (.t 49))⟩]
/-- loop.example/g00884/impl.wrapped -/
def c_i_wrapped : C := (.seq (.reg r_i_wrapped_0 [0, 1]) (.seq (.reg r_i_wrapped_1 [0, 1, 5]) (.seq (.seq (.reg r_i_wrapped_2 [1, 5, 11, 12, 13]) (.block 0 (.loop l_i_wrapped_10))) (.seq (.reg r_i_wrapped_11 [4]) .ret))))
def k_i_wrapped : Nat → List Nat
  | 0 => [0, 1]
  | 1 => [0, 1, 5]
  | 2 => [1, 5, 11, 12, 13]
  | 3 => [1, 5, 11, 12, 13, 14]
  | 4 => [1, 5, 7, 11, 12, 13]
  | 5 => [1, 5, 7, 8, 11, 12, 13]
  | 6 => [1, 5, 7, 8, 11, 12, 13, 34]
  | 7 => [1, 5, 11, 12, 13]
  | 8 => [1, 5, 11, 12, 13]
  | 9 => [1, 5, 11, 12, 13]
  | 10 => [4]
  | _ => []
theorem fn_i_wrapped : FnC Tryz.prog n_i_wrapped c_i_wrapped [(.tmp 4)] 50 :=
  ⟨Tryz.f101, _, k_i_wrapped, Tryz.func101, rfl, by kernel_rfl, by kernel_rfl, by kernel_rfl, rfl⟩
end Go.Proofs.YtbeoijlggphklaaGreatDoor

/- The compact code of the functions, and that it is theirs: written by a program of this claim. -/
namespace Go.Proofs.YtbeoijlggphklaaGreatDoor
open Go.Abs
set_option maxRecDepth 100000
def r_strings_genSplit_0 : List CO := [⟨none, (some 8), (.mv (.k (.v (.slice none 0 0))))⟩]
def r_strings_genSplit_1 : List CO := [⟨none, (some 12), (.mv (.t 3))⟩, ⟨none, (some 13), (.bin .eql .none (.t 12) (.k (.v (.int .i64 (0)))))⟩]
def r_strings_genSplit_2 : List CO := [⟨none, (some 8), (.mv (.k (.v (.slice none 0 0))))⟩]
def r_strings_genSplit_3 : List CO := [⟨none, (some 14), (.mv (.t 1))⟩, ⟨none, (some 15), (.bin .eql .none (.t 14) (.k (.v (.string (bs [])))))⟩]
def r_strings_genSplit_4 : List CO := [⟨none, (some 16), (.mv (.t 0))⟩, ⟨none, (some 17), (.mv (.t 3))⟩, ⟨none, (some 18), (.call n_strings_explode [(.t 16), (.t 17)])⟩, ⟨none, (some 8), (.mv (.t 18))⟩]
def r_strings_genSplit_5 : List CO := [⟨none, (some 19), (.mv (.t 3))⟩, ⟨none, (some 20), (.bin .lss .none (.t 19) (.k (.v (.int .i64 (0)))))⟩]
def r_strings_genSplit_6 : List CO := [⟨none, (some 21), (.mv (.t 0))⟩, ⟨none, (some 22), (.mv (.t 1))⟩, ⟨none, (some 23), (.call n_strings_Count [(.t 21), (.t 22)])⟩, ⟨none, (some 24), (.bin .add .none (.t 23) (.k (.v (.int .i64 (1)))))⟩, ⟨none, (some 3), (.mv (.t 24))⟩]
def r_strings_genSplit_7 : List CO := [⟨none, (some 25), (.mv (.t 3))⟩, ⟨none, (some 26), (.mv (.t 0))⟩, ⟨none, (some 27), (.len true (.t 26))⟩, ⟨none, (some 28), (.bin .add .none (.t 27) (.k (.v (.int .i64 (1)))))⟩, ⟨none, (some 29), (.mm false [(.t 25), (.t 28)])⟩, ⟨none, (some 3), (.mv (.t 29))⟩]
def r_strings_genSplit_8 : List CO := [⟨none, (some 30), (.mv (.t 3))⟩, ⟨none, (some 31), (.mks 1 (.v (.string (bs []))) 16 (.t 30) (.t 30))⟩, ⟨none, (some 9), (.mv (.t 31))⟩]
def r_strings_genSplit_9 : List CO := [⟨none, (some 32), (.mv (.t 3))⟩, ⟨none, (some 33), (.bin .sub .none (.t 32) (.k (.v (.int .i64 (1)))))⟩, ⟨none, (some 3), (.mv (.t 33))⟩]
def r_strings_genSplit_10 : List CO := [⟨none, (some 10), (.mv (.k (.v (.int .i64 (0)))))⟩]
def r_strings_genSplit_11 : List CO := [⟨none, (some 34), (.mv (.t 10))⟩, ⟨none, (some 35), (.mv (.t 3))⟩, ⟨none, (some 36), (.bin .lss .none (.t 34) (.t 35))⟩]
def r_strings_genSplit_12 : List CO := [⟨none, (some 37), (.mv (.t 0))⟩, ⟨none, (some 38), (.mv (.t 1))⟩, ⟨none, (some 39), (.call n_strings_Index [(.t 37), (.t 38)])⟩, ⟨none, (some 11), (.mv (.t 39))⟩]
def r_strings_genSplit_13 : List CO := [⟨none, (some 40), (.mv (.t 11))⟩, ⟨none, (some 41), (.bin .lss .none (.t 40) (.k (.v (.int .i64 (0)))))⟩]
def r_strings_genSplit_14 : List CO := [⟨none, (some 42), (.mv (.t 9))⟩, ⟨none, (some 43), (.mv (.t 10))⟩, ⟨none, (some 44), (.mv (.t 0))⟩, ⟨none, (some 45), (.mv (.t 11))⟩, ⟨none, (some 46), (.mv (.t 2))⟩, ⟨none, (some 47), (.bin .add .none (.t 45) (.t 46))⟩, ⟨none, (some 48), (.slc none (.t 44) none (some (.t 47)))⟩, ⟨none, (some 49), (.iaddr 1 (.t 42) (.t 43))⟩, ⟨none, none, (.st 1 (.t 49) (.t 48))⟩]
def r_strings_genSplit_15 : List CO := [⟨none, (some 50), (.mv (.t 0))⟩, ⟨none, (some 51), (.mv (.t 11))⟩, ⟨none, (some 52), (.mv (.t 1))⟩, ⟨none, (some 53), (.len true (.t 52))⟩, ⟨none, (some 54), (.bin .add .none (.t 51) (.t 53))⟩, ⟨none, (some 55), (.slc none (.t 50) (some (.t 54)) none)⟩, ⟨none, (some 0), (.mv (.t 55))⟩]
def r_strings_genSplit_16 : List CO := [⟨none, (some 56), (.mv (.t 10))⟩, ⟨none, (some 57), (.bin .add .none (.t 56) (.k (.v (.int .i64 (1)))))⟩, ⟨none, (some 10), (.mv (.t 57))⟩]
def l_strings_genSplit_17 : C := (.seq (.seq (.reg r_strings_genSplit_11 [0, 1, 2, 3, 9, 10, 36]) (.cond (.t 36) .skip (.exit 0))) (.block 1 (.seq (.reg r_strings_genSplit_12 [0, 1, 2, 3, 9, 10, 11]) (.seq (.seq (.reg r_strings_genSplit_13 [0, 1, 2, 3, 9, 10, 11, 41]) (.cond (.t 41) (.exit 0) .skip)) (.seq (.reg r_strings_genSplit_14 [0, 1, 2, 3, 9, 10, 11]) (.seq (.reg r_strings_genSplit_15 [0, 1, 2, 3, 9, 10]) (.reg r_strings_genSplit_16 [0, 1, 2, 3, 9, 10])))))))
def r_strings_genSplit_18 : List CO := [⟨none, (some 58), (.mv (.t 9))⟩, ⟨none, (some 59), (.mv (.t 10))⟩, ⟨none, (some 60), (.mv (.t 0))⟩, ⟨none, (some 61), (.iaddr 1 (.t 58) (.t 59))⟩, ⟨none, none, (.st 1 (.t 61) (.t 60))⟩]
def r_strings_genSplit_19 : List CO := [⟨none, (some 62), (.mv (.t 9))⟩, ⟨none, (some 63), (.mv (.t 10))⟩, ⟨none, (some 64), (.bin .add .none (.t 63) (.k (.v (.int .i64 (1)))))⟩, ⟨none, (some 65), (.slc (some 1) (.t 62) none (some (.t 64)))⟩, ⟨none, (some 8), (.mv (.t 65))⟩]
/-- strings.genSplit -/
def c_strings_genSplit : C := (.seq (.reg r_strings_genSplit_0 [0, 1, 2, 3]) (.seq (.seq (.reg r_strings_genSplit_1 [0, 1, 2, 3, 13]) (.cond (.t 13) (.seq (.reg r_strings_genSplit_2 [8]) .ret) .skip)) (.seq (.seq (.reg r_strings_genSplit_3 [0, 1, 2, 3, 15]) (.cond (.t 15) (.seq (.reg r_strings_genSplit_4 [8]) .ret) .skip)) (.seq (.seq (.reg r_strings_genSplit_5 [0, 1, 2, 3, 20]) (.cond (.t 20) (.reg r_strings_genSplit_6 [0, 1, 2, 3]) .skip)) (.seq (.reg r_strings_genSplit_7 [0, 1, 2, 3]) (.seq (.reg r_strings_genSplit_8 [0, 1, 2, 3, 9]) (.seq (.reg r_strings_genSplit_9 [0, 1, 2, 3, 9]) (.seq (.reg r_strings_genSplit_10 [0, 1, 2, 3, 9, 10]) (.seq (.block 0 (.loop l_strings_genSplit_17)) (.seq (.reg r_strings_genSplit_18 [9, 10]) (.seq (.reg r_strings_genSplit_19 [8]) .ret)))))))))))
def k_strings_genSplit : Nat → List Nat
  | 0 => [0, 1, 2, 3]
  | 1 => [0, 1, 2, 3, 13]
  | 2 => [8]
  | 3 => [0, 1, 2, 3, 15]
  | 4 => [8]
  | 5 => [0, 1, 2, 3, 20]
  | 6 => [0, 1, 2, 3]
  | 7 => [0, 1, 2, 3]
  | 8 => [0, 1, 2, 3, 9]
  | 9 => [0, 1, 2, 3, 9]
  | 10 => [0, 1, 2, 3, 9, 10]
  | 11 => [0, 1, 2, 3, 9, 10, 36]
  | 12 => [0, 1, 2, 3, 9, 10, 11]
  | 13 => [0, 1, 2, 3, 9, 10, 11, 41]
  | 14 => [0, 1, 2, 3, 9, 10, 11]
  | 15 => [0, 1, 2, 3, 9, 10]
  | 16 => [0, 1, 2, 3, 9, 10]
  | 17 => [9, 10]
  | 18 => [8]
  | _ => []
theorem fn_strings_genSplit : FnC Tryz.prog n_strings_genSplit c_strings_genSplit [(.tmp 8)] 66 :=
  ⟨Tryz.f189, _, k_strings_genSplit, Tryz.func189, rfl, by kernel_rfl, by kernel_rfl, by kernel_rfl, rfl⟩
def r_strings_Split_0 : List CO := [⟨none, (some 4), (.mv (.k (.v (.slice none 0 0))))⟩]
def r_strings_Split_1 : List CO := [⟨none, (some 5), (.mv (.t 0))⟩, ⟨none, (some 6), (.mv (.t 1))⟩, ⟨none, (some 7), (.call n_strings_genSplit [(.t 5), (.t 6), (.k (.v (.int .i64 (0)))), (.k (.v (.int .i64 (-1))))])⟩, ⟨none, (some 4), (.mv (.t 7))⟩]
/-- strings.Split -/
def c_strings_Split : C := (.seq (.reg r_strings_Split_0 [0, 1]) (.seq (.reg r_strings_Split_1 [4]) .ret))
def k_strings_Split : Nat → List Nat
  | 0 => [0, 1]
  | 1 => [4]
  | _ => []
theorem fn_strings_Split : FnC Tryz.prog n_strings_Split c_strings_Split [(.tmp 4)] 8 :=
  ⟨Tryz.f145, _, k_strings_Split, Tryz.func145, rfl, by kernel_rfl, by kernel_rfl, by kernel_rfl, rfl⟩
end Go.Proofs.YtbeoijlggphklaaGreatDoor

/- Texts that are cut at a byte; numbers as texts. No program in sight. -/
set_option linter.unusedVariables false
set_option linter.unusedSimpArgs false
namespace Go.Proofs.YtbeoijlggphklaaGreatDoor
open Go.Abs

/-! ### Texts that are cut -/
def cut0 (c : UInt8) (s : List UInt8) : List UInt8 := s.takeWhile (· != c)
def cut1 (c : UInt8) (s : List UInt8) : List UInt8 := (s.dropWhile (· != c)).drop 1
theorem cut_split {c : UInt8} : ∀ {s : List UInt8}, c ∈ s → s = cut0 c s ++ c :: cut1 c s ∧ c ∉ cut0 c s
  | [], h => by simp at h
  | x :: s, h => by
    by_cases e : x = c
    · subst e; simp [cut0, cut1]
    · have hs : c ∈ s := by
        rcases List.mem_cons.1 h with h | h
        · exact absurd h.symm e
        · exact h
      obtain ⟨h1, h2⟩ := cut_split hs
      have hx : (x != c) = true := by simpa using e
      have e0 : cut0 c (x :: s) = x :: cut0 c s := by simp [cut0, hx]
      have e1 : cut1 c (x :: s) = cut1 c s := by simp [cut1, hx]
      rw [e0, e1]
      refine ⟨by rw [List.cons_append, ← h1], ?_⟩
      rw [List.mem_cons, not_or]
      exact ⟨fun h => e h.symm, h2⟩
/-- A text between bytes. -/
def parts (c : UInt8) : List UInt8 → List (List UInt8)
  | [] => [[]]
  | x :: s => if x = c then [] :: parts c s else match parts c s with
    | p :: ps => (x :: p) :: ps
    | [] => [[x]]
theorem parts_none {c : UInt8} : ∀ {s : List UInt8}, c ∉ s → parts c s = [s]
  | [], _ => rfl
  | x :: s, h => by
    rw [List.mem_cons, not_or] at h
    rw [parts, if_neg (fun e => h.1 e.symm), parts_none h.2]
theorem parts_at {c : UInt8} : ∀ {a b : List UInt8}, c ∉ a → parts c (a ++ c :: b) = a :: parts c b
  | [], b, _ => by rw [List.nil_append, parts, if_pos rfl]
  | x :: a, b, h => by
    rw [List.mem_cons, not_or] at h
    rw [List.cons_append, parts, if_neg (fun e => h.1 e.symm), parts_at h.2]
theorem parts_ne {c : UInt8} (s : List UInt8) : parts c s ≠ [] := by
  by_cases h : c ∈ s
  · obtain ⟨h1, h2⟩ := cut_split h
    rw [h1, parts_at h2]; simp
  · rw [parts_none h]; simp
theorem parts_len {c : UInt8} (s : List UInt8) : 2 ≤ (parts c s).length ↔ c ∈ s := by
  by_cases h : c ∈ s
  · obtain ⟨h1, h2⟩ := cut_split h
    rw [h1, parts_at h2]
    have := List.length_pos_iff.2 (parts_ne (c := c) (cut1 c s))
    simp only [List.length_cons]
    constructor
    · intro _; simp
    · intro _; omega
  · rw [parts_none h]; simp [h]

def digits (n : Nat) : List UInt8 := Lib.decDigits n
theorem digits_small {n : Nat} (h : n < 10) : digits n = [UInt8.ofNat (48 + n)] := by unfold digits; rw [Lib.decDigits, dif_pos h]
theorem digits_big {n : Nat} (h : ¬ n < 10) : digits n = digits (n / 10) ++ [UInt8.ofNat (48 + n % 10)] := by
  unfold digits
  conv => lhs; rw [Lib.decDigits, dif_neg h]
theorem digits_len : ∀ (k n : Nat), n < 10 ^ (k + 1) → (digits n).length ≤ k + 1
  | 0, n, h => by rw [digits_small (by omega)]; simp
  | k + 1, n, h => by
    by_cases h' : n < 10
    · rw [digits_small h']; simp
    · rw [digits_big h', List.length_append, List.length_singleton]
      have := digits_len k (n / 10) (by rw [Nat.pow_succ] at h; omega)
      omega
theorem dig_slice {i : Nat} (h : i < 10) : (([48, 49, 50, 51, 52, 53, 54, 55, 56, 57] : List UInt8).drop i).take 1 = [UInt8.ofNat (48 + i)] := by
  have : ∀ j : Fin 10, (([48, 49, 50, 51, 52, 53, 54, 55, 56, 57] : List UInt8).drop j.1).take 1 = [UInt8.ofNat (48 + j.1)] := by decide
  exact this ⟨i, h⟩
theorem digits_le (n : Nat) : (digits n).length ≤ n + 1 := by
  induction n using Nat.strongRecOn with
  | _ n ih =>
    by_cases h : n < 10
    · rw [digits_small h]; simp
    · rw [digits_big h, List.length_append, List.length_singleton]
      have := ih (n / 10) (by omega)
      omega
end Go.Proofs.YtbeoijlggphklaaGreatDoor

/-
  DERIVED: THE SHELF's CONTRACTS AT THIS DUMP, IN PLAIN WORDS (tools/lay-plain.mjs out of 'TryzShelf.lean', which tools/lay-shelf.mjs wrote): THE SAME DECLARATIONS UNDER THE SAME NAMES: 'import', 'namespace', 'open', 'def', 'theorem' AND NOTHING ELSE: no command of the shelf's: FOR A HAND-IN. Each laying: the table of numbers ('.._ren') and one theorem, a field a fact of the dump's own or the kernel's comparison; each contract: ONE APPLICATION.
-/
namespace Go.Proofs
open Go.Shelf
def Tryz.lays106_ren : Go.Shelf.Ren := ⟨fun | 106 => 111 | 213 => 152 | 265 => 202 | n => n, fun | 9 => 9 | 3 => 3 | n => n, fun | n => n⟩
theorem Tryz.lays106 : Go.Proofs.Lays.n106 Tryz.prog Tryz.lays106_ren := {
  mixed := by kernel_rfl
  f106 := Tryz.func111.trans (congrArg some (by kernel_rfl))
  f213 := Tryz.func152.trans (congrArg some (by kernel_rfl))
  f265 := Tryz.func202.trans (congrArg some (by kernel_rfl))
  t3 := Tryz.underlying3
  a3 := Tryz.isAgg3
  z3 := Tryz.sizeOf3
  v3 := Tryz.zeroValue3
  t9 := Tryz.underlying9
  a9 := Tryz.isAgg9
  z9 := Tryz.sizeOf9
  v9 := Tryz.zeroValue9 }
open Go.RowKit in
/-- strings.Compare: "Compare returns an integer comparing two strings lexicographically. The result will be 0 if a == b, -1 if a < b, and +1 if a > b.": IT RETURNS 'Lib.compareBytes a b'; the world is as it was. (LAID: no walk: one application.) -/
theorem Tryz.strings_Compare (a b : ByteArray) (w : World) :
    Calls Tryz.prog 111 #[.string a, .string b] w fun e w' => e = .returned (.int .i64 (Lib.compareBytes a.data.toList b.data.toList)) ∧ w' = w := Any.strings_Compare Tryz.lays106 a b w
def Tryz.laysM171_ren : Go.Shelf.Ren := ⟨fun | 171 => 67 | 243 => 105 | 246 => 150 | 283 => 196 | 284 => 197 | 285 => 198 | 286 => 199 | 129 => 173 | 317 => 237 | 318 => 238 | 319 => 239 | 320 => 240 | 337 => 256 | 338 => 257 | n => n, fun | 3 => 3 | 9 => 9 | 2 => 2 | 4 => 4 | 171 => 219 | 0 => 0 | 53 => 118 | 37 => 82 | 5 => 5 | 173 => 221 | 212 => 244 | 51 => 192 | 20 => 20 | 213 => 245 | 46 => 156 | 232 => 257 | 233 => 258 | n => n, fun | 17 => 1 | 18 => 2 | 19 => 3 | n => n⟩
theorem Tryz.laysM171 : Go.Proofs.LaysM.n171 Tryz.prog Tryz.laysM171_ren := {
  mixed := by kernel_rfl
  f129 := Tryz.func173.trans (congrArg some (by kernel_rfl))
  f171 := Tryz.func67.trans (congrArg some (by kernel_rfl))
  f243 := Tryz.func105.trans (congrArg some (by kernel_rfl))
  f246 := Tryz.func150.trans (congrArg some (by kernel_rfl))
  f283 := Tryz.func196.trans (congrArg some (by kernel_rfl))
  f284 := Tryz.func197.trans (congrArg some (by kernel_rfl))
  f285 := Tryz.func198.trans (congrArg some (by kernel_rfl))
  f286 := Tryz.func199.trans (congrArg some (by kernel_rfl))
  f317 := Tryz.func237.trans (congrArg some (by kernel_rfl))
  f318 := Tryz.func238.trans (congrArg some (by kernel_rfl))
  f319 := Tryz.func239.trans (congrArg some (by kernel_rfl))
  f320 := Tryz.func240.trans (congrArg some (by kernel_rfl))
  f337 := Tryz.func256.trans (congrArg some (by kernel_rfl))
  f338 := Tryz.func257.trans (congrArg some (by kernel_rfl))
  t0 := Tryz.underlying0
  a0 := Tryz.isAgg0
  z0 := Tryz.sizeOf0
  v0 := Tryz.zeroValue0
  t2 := Tryz.underlying2
  a2 := Tryz.isAgg2
  z2 := Tryz.sizeOf2
  v2 := Tryz.zeroValue2
  t3 := Tryz.underlying3
  a3 := Tryz.isAgg3
  z3 := Tryz.sizeOf3
  v3 := Tryz.zeroValue3
  t4 := Tryz.underlying4
  a4 := Tryz.isAgg4
  z4 := Tryz.sizeOf4
  v4 := Tryz.zeroValue4
  t5 := Tryz.underlying5
  a5 := Tryz.isAgg5
  z5 := Tryz.sizeOf5
  v5 := Tryz.zeroValue5
  t9 := Tryz.underlying9
  a9 := Tryz.isAgg9
  z9 := Tryz.sizeOf9
  v9 := Tryz.zeroValue9
  t20 := Tryz.underlying20
  a20 := Tryz.isAgg20
  z20 := Tryz.sizeOf20
  v20 := Tryz.zeroValue20
  t37 := Tryz.underlying82
  a37 := Tryz.isAgg82
  z37 := Tryz.sizeOf82
  v37 := Tryz.zeroValue82
  t46 := Tryz.underlying156
  a46 := Tryz.isAgg156
  z46 := Tryz.sizeOf156
  v46 := Tryz.zeroValue156
  t51 := Tryz.underlying192
  a51 := Tryz.isAgg192
  z51 := Tryz.sizeOf192
  v51 := Tryz.zeroValue192
  t53 := Tryz.underlying118
  a53 := Tryz.isAgg118
  z53 := Tryz.sizeOf118
  v53 := Tryz.zeroValue118
  t171 := Tryz.underlying219
  a171 := Tryz.isAgg219
  z171 := Tryz.sizeOf219
  v171 := Tryz.zeroValue219
  t173 := Tryz.underlying221
  a173 := Tryz.isAgg221
  z173 := Tryz.sizeOf221
  v173 := Tryz.zeroValue221
  t212 := Tryz.underlying244
  a212 := Tryz.isAgg244
  z212 := Tryz.sizeOf244
  v212 := Tryz.zeroValue244
  t213 := Tryz.underlying245
  a213 := Tryz.isAgg245
  z213 := Tryz.sizeOf245
  t232 := Tryz.underlying257
  a232 := Tryz.isAgg257
  z232 := Tryz.sizeOf257
  v232 := Tryz.zeroValue257
  t233 := Tryz.underlying258
  a233 := Tryz.isAgg258
  z233 := Tryz.sizeOf258
  v233 := Tryz.zeroValue258
  g17 := by kernel_rfl
  g18 := by kernel_rfl
  g19 := by kernel_rfl
  i0 := by kernel_rfl
  i2 := by kernel_rfl
  i3 := by kernel_rfl
  i4 := by kernel_rfl
  i5 := by kernel_rfl
  i9 := by kernel_rfl
  i20 := by kernel_rfl
  i37 := by kernel_rfl
  i46 := by kernel_rfl
  i51 := by kernel_rfl
  i53 := by kernel_rfl
  i171 := by kernel_rfl
  i173 := by kernel_rfl
  i212 := by kernel_rfl
  i232 := by kernel_rfl
  i233 := by kernel_rfl
  m17 := by kernel_rfl
  m18 := by kernel_rfl
  m19 := by kernel_rfl }
open Go.RowKit Go.Sort Go.Lib in
/-- strconv.Itoa: "Itoa is equivalent to FormatInt(int64(i), 10).": i's DECIMAL NUMERAL ('Lib.itoa': a '-' where i is negative, then the digits), FOR EVERY int. The world behind the call: the world before it, new blocks behind the heap (the library's 'var a [24]byte'), draws. (LAID: no walk: one application.) -/
theorem Tryz.strconv_Itoa (n : Int) (h0 : -9223372036854775808 ≤ n) (h1 : n ≤ 9223372036854775807) (w : World) (htab : Lib.TabIs Tryz.prog w "internal/strconv.uint64pow10" .u64 Lib.pow10Tab) :
    Calls Tryz.prog 67 #[.int .i64 n] w fun e w' => e = .returned (.string ⟨(Lib.itoa n).toArray⟩) ∧ ∃ k os, w' = grow (w.drewN k) os := Any.strconv_Itoa Tryz.laysM171 n h0 h1 w htab
def Tryz.lays143_ren : Go.Shelf.Ren := ⟨fun | 143 => 225 | 219 => 246 | 217 => 260 | 225 => 261 | 224 => 262 | 267 => 263 | 266 => 266 | 314 => 267 | n => n, fun | 9 => 9 | 3 => 3 | 4 => 4 | 5 => 5 | 46 => 156 | 146 => 193 | 51 => 192 | n => n, fun | 1 => 0 | n => n⟩
theorem Tryz.lays143 : Go.Proofs.Lays.n143 Tryz.prog Tryz.lays143_ren := {
  mixed := by kernel_rfl
  f143 := Tryz.func225.trans (congrArg some (by kernel_rfl))
  f217 := Tryz.func260.trans (congrArg some (by kernel_rfl))
  f219 := Tryz.func246.trans (congrArg some (by kernel_rfl))
  f224 := Tryz.func262.trans (congrArg some (by kernel_rfl))
  f225 := Tryz.func261.trans (congrArg some (by kernel_rfl))
  f266 := Tryz.func266.trans (congrArg some (by kernel_rfl))
  f267 := Tryz.func263.trans (congrArg some (by kernel_rfl))
  f314 := Tryz.func267.trans (congrArg some (by kernel_rfl))
  t3 := Tryz.underlying3
  a3 := Tryz.isAgg3
  z3 := Tryz.sizeOf3
  v3 := Tryz.zeroValue3
  t4 := Tryz.underlying4
  a4 := Tryz.isAgg4
  z4 := Tryz.sizeOf4
  v4 := Tryz.zeroValue4
  t5 := Tryz.underlying5
  a5 := Tryz.isAgg5
  z5 := Tryz.sizeOf5
  v5 := Tryz.zeroValue5
  t9 := Tryz.underlying9
  a9 := Tryz.isAgg9
  z9 := Tryz.sizeOf9
  v9 := Tryz.zeroValue9
  t46 := Tryz.underlying156
  a46 := Tryz.isAgg156
  z46 := Tryz.sizeOf156
  v46 := Tryz.zeroValue156
  t51 := Tryz.underlying192
  a51 := Tryz.isAgg192
  z51 := Tryz.sizeOf192
  v51 := Tryz.zeroValue192
  t146 := Tryz.underlying193
  a146 := Tryz.isAgg193
  z146 := Tryz.sizeOf193
  v146 := Tryz.zeroValue193
  g1 := by kernel_rfl }
open Go.RowKit Go.Lib in
/-- strings.Index: "Index returns the index of the first instance of substr in s, or -1 if substr is not present in s.": AT A substr OF ONE BYTE c: IT RETURNS 'Lib.indexByte s c'; the world is as it was. (LAID: no walk: one application.) -/
theorem Tryz.strings_Index_one (s : ByteArray) (c : UInt8) (w : World) :
    Calls Tryz.prog 225 #[.string s, .string ⟨#[c]⟩] w fun e w' => e = .returned (.int .i64 (Lib.indexByte s.data.toList c)) ∧ w' = w := Any.strings_Index_one Tryz.lays143 s c w
open Go.RowKit Go.Lib in
/-- strings.Index: "Index returns the index of the first instance of substr in s, or -1 if substr is not present in s.": IT RETURNS 'Lib.index s substr'; the world is as it was. (LAID: no walk: one application.) -/
theorem Tryz.strings_Index (s sub : ByteArray) (m : Int) (w : World) (hs : s.size < 4294967281) (hm : w.cell? ⟨0, 0, none⟩ = some (.int .i64 m)) :
    Calls Tryz.prog 225 #[.string s, .string sub] w fun e w' => e = .returned (.int .i64 (Lib.index s.data.toList sub.data.toList)) ∧ w' = w := Any.strings_Index Tryz.lays143 s sub m w hs hm
def Tryz.lays138_ren : Go.Shelf.Ren := ⟨fun | 138 => 224 | 195 => 243 | 218 => 245 | 143 => 225 | 219 => 246 | 217 => 260 | 225 => 261 | 224 => 262 | 267 => 263 | 266 => 266 | 314 => 267 | n => n, fun | 9 => 9 | 3 => 3 | 4 => 4 | 5 => 5 | 0 => 0 | 46 => 156 | 146 => 193 | 51 => 192 | n => n, fun | 1 => 0 | n => n⟩
theorem Tryz.lays138 : Go.Proofs.Lays.n138 Tryz.prog Tryz.lays138_ren := {
  mixed := by kernel_rfl
  f138 := Tryz.func224.trans (congrArg some (by kernel_rfl))
  f143 := Tryz.func225.trans (congrArg some (by kernel_rfl))
  f195 := Tryz.func243.trans (congrArg some (by kernel_rfl))
  f217 := Tryz.func260.trans (congrArg some (by kernel_rfl))
  f218 := Tryz.func245.trans (congrArg some (by kernel_rfl))
  f219 := Tryz.func246.trans (congrArg some (by kernel_rfl))
  f224 := Tryz.func262.trans (congrArg some (by kernel_rfl))
  f225 := Tryz.func261.trans (congrArg some (by kernel_rfl))
  f266 := Tryz.func266.trans (congrArg some (by kernel_rfl))
  f267 := Tryz.func263.trans (congrArg some (by kernel_rfl))
  f314 := Tryz.func267.trans (congrArg some (by kernel_rfl))
  t0 := Tryz.underlying0
  a0 := Tryz.isAgg0
  z0 := Tryz.sizeOf0
  v0 := Tryz.zeroValue0
  t3 := Tryz.underlying3
  a3 := Tryz.isAgg3
  z3 := Tryz.sizeOf3
  v3 := Tryz.zeroValue3
  t4 := Tryz.underlying4
  a4 := Tryz.isAgg4
  z4 := Tryz.sizeOf4
  v4 := Tryz.zeroValue4
  t5 := Tryz.underlying5
  a5 := Tryz.isAgg5
  z5 := Tryz.sizeOf5
  v5 := Tryz.zeroValue5
  t9 := Tryz.underlying9
  a9 := Tryz.isAgg9
  z9 := Tryz.sizeOf9
  v9 := Tryz.zeroValue9
  t46 := Tryz.underlying156
  a46 := Tryz.isAgg156
  z46 := Tryz.sizeOf156
  v46 := Tryz.zeroValue156
  t51 := Tryz.underlying192
  a51 := Tryz.isAgg192
  z51 := Tryz.sizeOf192
  v51 := Tryz.zeroValue192
  t146 := Tryz.underlying193
  a146 := Tryz.isAgg193
  z146 := Tryz.sizeOf193
  v146 := Tryz.zeroValue193
  g1 := by kernel_rfl }
open Go.RowKit Go.Lib in
/-- strings.Count AT A substr OF ONE BYTE ('hp'): "Count counts the number of non-overlapping instances of substr in s.": IT RETURNS 'Lib.countByte s (that byte)'; the world is as it was. ✋ NO CONTRACT HERE YET at an empty substr (utf8.RuneCountInString) or at a longer one (a loop over strings.Index). (LAID: no walk: one application.) -/
theorem Tryz.strings_Count_one (s : ByteArray) (c : UInt8) (w : World) :
    Calls Tryz.prog 224 #[.string s, .string ⟨#[c]⟩] w fun e w' => e = .returned (.int .i64 (Lib.countByte s.data.toList c)) ∧ w' = w := Any.strings_Count_one Tryz.lays138 s c w
open Go.RowKit Go.Lib in
/-- strings.Count AT A substr OF TWO BYTES OR MORE: "Count counts the number of non-overlapping instances of substr in s.": IT RETURNS 'Lib.count s substr'; the world is as it was. (LAID: no walk: one application.) -/
theorem Tryz.strings_Count (s sub : ByteArray) (m : Int) (w : World) (hs : s.size < 4294967281) (hm : w.cell? ⟨0, 0, none⟩ = some (.int .i64 m)) (h2 : 2 ≤ sub.size) :
    Calls Tryz.prog 224 #[.string s, .string sub] w fun e w' => e = .returned (.int .i64 (Lib.countB s sub)) ∧ w' = w := Any.strings_Count Tryz.lays138 s sub m w hs hm h2
def Tryz.lays221_ren : Go.Shelf.Ren := ⟨fun | 221 => 189 | 268 => 223 | 138 => 224 | 143 => 225 | 195 => 243 | 197 => 244 | 218 => 245 | 219 => 246 | 260 => 259 | 217 => 260 | 225 => 261 | 224 => 262 | 267 => 263 | 266 => 266 | 314 => 267 | n => n, fun | 9 => 9 | 3 => 3 | 31 => 31 | 4 => 4 | 0 => 0 | 105 => 250 | 21 => 21 | 5 => 5 | 46 => 156 | 119 => 259 | 139 => 262 | 138 => 261 | 146 => 193 | 51 => 192 | n => n, fun | 1 => 0 | 3 => 4 | 4 => 5 | n => n⟩
theorem Tryz.lays221 : Go.Proofs.Lays.n221 Tryz.prog Tryz.lays221_ren := {
  mixed := by kernel_rfl
  f138 := Tryz.func224.trans (congrArg some (by kernel_rfl))
  f143 := Tryz.func225.trans (congrArg some (by kernel_rfl))
  f195 := Tryz.func243.trans (congrArg some (by kernel_rfl))
  f197 := Tryz.func244.trans (congrArg some (by kernel_rfl))
  f217 := Tryz.func260.trans (congrArg some (by kernel_rfl))
  f218 := Tryz.func245.trans (congrArg some (by kernel_rfl))
  f219 := Tryz.func246.trans (congrArg some (by kernel_rfl))
  f221 := Tryz.func189.trans (congrArg some (by kernel_rfl))
  f224 := Tryz.func262.trans (congrArg some (by kernel_rfl))
  f225 := Tryz.func261.trans (congrArg some (by kernel_rfl))
  f260 := Tryz.func259.trans (congrArg some (by kernel_rfl))
  f266 := Tryz.func266.trans (congrArg some (by kernel_rfl))
  f267 := Tryz.func263.trans (congrArg some (by kernel_rfl))
  f268 := Tryz.func223.trans (congrArg some (by kernel_rfl))
  f314 := Tryz.func267.trans (congrArg some (by kernel_rfl))
  t0 := Tryz.underlying0
  a0 := Tryz.isAgg0
  z0 := Tryz.sizeOf0
  v0 := Tryz.zeroValue0
  t3 := Tryz.underlying3
  a3 := Tryz.isAgg3
  z3 := Tryz.sizeOf3
  v3 := Tryz.zeroValue3
  t4 := Tryz.underlying4
  a4 := Tryz.isAgg4
  z4 := Tryz.sizeOf4
  v4 := Tryz.zeroValue4
  t5 := Tryz.underlying5
  a5 := Tryz.isAgg5
  z5 := Tryz.sizeOf5
  v5 := Tryz.zeroValue5
  t9 := Tryz.underlying9
  a9 := Tryz.isAgg9
  z9 := Tryz.sizeOf9
  v9 := Tryz.zeroValue9
  t21 := Tryz.underlying21
  a21 := Tryz.isAgg21
  z21 := Tryz.sizeOf21
  v21 := Tryz.zeroValue21
  t31 := Tryz.underlying31
  a31 := Tryz.isAgg31
  z31 := Tryz.sizeOf31
  v31 := Tryz.zeroValue31
  t46 := Tryz.underlying156
  a46 := Tryz.isAgg156
  z46 := Tryz.sizeOf156
  v46 := Tryz.zeroValue156
  t51 := Tryz.underlying192
  a51 := Tryz.isAgg192
  z51 := Tryz.sizeOf192
  v51 := Tryz.zeroValue192
  t105 := Tryz.underlying250
  a105 := Tryz.isAgg250
  z105 := Tryz.sizeOf250
  v105 := Tryz.zeroValue250
  t119 := Tryz.underlying259
  a119 := Tryz.isAgg259
  z119 := Tryz.sizeOf259
  t138 := Tryz.underlying261
  a138 := Tryz.isAgg261
  z138 := Tryz.sizeOf261
  v138 := Tryz.zeroValue261
  t139 := Tryz.underlying262
  a139 := Tryz.isAgg262
  z139 := Tryz.sizeOf262
  v139 := Tryz.zeroValue262
  t146 := Tryz.underlying193
  a146 := Tryz.isAgg193
  z146 := Tryz.sizeOf193
  v146 := Tryz.zeroValue193
  g1 := by kernel_rfl
  g3 := by kernel_rfl
  g4 := by kernel_rfl }
open Go.RowKit Go.Lib in
theorem Tryz.strings_genSplit (s sep : ByteArray) (sv : Nat) (n : Int) (N : Nat) (m : Int) (w : World) (hs : s.size < 4294967281) (hm : w.cell? ⟨0, 0, none⟩ = some (.int .i64 m)) (h1 : 1 ≤ sep.size) (hsv : sv ≤ sep.size) (hn0 : n ≠ 0) (hn63 : n ≤ 9223372036854775807) (hN : (N : Int) = min (if n < 0 then (Lib.countB s sep : Int) + 1 else n) ((s.size : Int) + 1)) :
    Calls Tryz.prog 189 #[.string s, .string sep, .int .i64 sv, .int .i64 n] w fun e w' =>
      e = .returned (.slice (some ⟨w.heap.size, 0, none⟩) (Lib.splitB sep sv (N - 1) s).length N) ∧ w' = w.alloc (.cells (Lib.cellsOf (Lib.splitB sep sv (N - 1) s) N) 9) := Any.strings_genSplit Tryz.lays221 (by kernel_rfl) s sep sv n N m w hs hm h1 hsv hn0 hn63 hN
def Tryz.lays146_ren : Go.Shelf.Ren := ⟨fun | 146 => 145 | 221 => 189 | 268 => 223 | 138 => 224 | 143 => 225 | 195 => 243 | 197 => 244 | 218 => 245 | 219 => 246 | 260 => 259 | 217 => 260 | 225 => 261 | 224 => 262 | 267 => 263 | 266 => 266 | 314 => 267 | n => n, fun | 9 => 9 | 31 => 31 | 3 => 3 | 4 => 4 | 0 => 0 | 105 => 250 | 21 => 21 | 5 => 5 | 46 => 156 | 119 => 259 | 139 => 262 | 138 => 261 | 146 => 193 | 51 => 192 | n => n, fun | 1 => 0 | 3 => 4 | 4 => 5 | n => n⟩
theorem Tryz.lays146 : Go.Proofs.Lays.n146 Tryz.prog Tryz.lays146_ren := {
  mixed := by kernel_rfl
  f138 := Tryz.func224.trans (congrArg some (by kernel_rfl))
  f143 := Tryz.func225.trans (congrArg some (by kernel_rfl))
  f146 := Tryz.func145.trans (congrArg some (by kernel_rfl))
  f195 := Tryz.func243.trans (congrArg some (by kernel_rfl))
  f197 := Tryz.func244.trans (congrArg some (by kernel_rfl))
  f217 := Tryz.func260.trans (congrArg some (by kernel_rfl))
  f218 := Tryz.func245.trans (congrArg some (by kernel_rfl))
  f219 := Tryz.func246.trans (congrArg some (by kernel_rfl))
  f221 := Tryz.func189.trans (congrArg some (by kernel_rfl))
  f224 := Tryz.func262.trans (congrArg some (by kernel_rfl))
  f225 := Tryz.func261.trans (congrArg some (by kernel_rfl))
  f260 := Tryz.func259.trans (congrArg some (by kernel_rfl))
  f266 := Tryz.func266.trans (congrArg some (by kernel_rfl))
  f267 := Tryz.func263.trans (congrArg some (by kernel_rfl))
  f268 := Tryz.func223.trans (congrArg some (by kernel_rfl))
  f314 := Tryz.func267.trans (congrArg some (by kernel_rfl))
  t0 := Tryz.underlying0
  a0 := Tryz.isAgg0
  z0 := Tryz.sizeOf0
  v0 := Tryz.zeroValue0
  t3 := Tryz.underlying3
  a3 := Tryz.isAgg3
  z3 := Tryz.sizeOf3
  v3 := Tryz.zeroValue3
  t4 := Tryz.underlying4
  a4 := Tryz.isAgg4
  z4 := Tryz.sizeOf4
  v4 := Tryz.zeroValue4
  t5 := Tryz.underlying5
  a5 := Tryz.isAgg5
  z5 := Tryz.sizeOf5
  v5 := Tryz.zeroValue5
  t9 := Tryz.underlying9
  a9 := Tryz.isAgg9
  z9 := Tryz.sizeOf9
  v9 := Tryz.zeroValue9
  t21 := Tryz.underlying21
  a21 := Tryz.isAgg21
  z21 := Tryz.sizeOf21
  v21 := Tryz.zeroValue21
  t31 := Tryz.underlying31
  a31 := Tryz.isAgg31
  z31 := Tryz.sizeOf31
  v31 := Tryz.zeroValue31
  t46 := Tryz.underlying156
  a46 := Tryz.isAgg156
  z46 := Tryz.sizeOf156
  v46 := Tryz.zeroValue156
  t51 := Tryz.underlying192
  a51 := Tryz.isAgg192
  z51 := Tryz.sizeOf192
  v51 := Tryz.zeroValue192
  t105 := Tryz.underlying250
  a105 := Tryz.isAgg250
  z105 := Tryz.sizeOf250
  v105 := Tryz.zeroValue250
  t119 := Tryz.underlying259
  a119 := Tryz.isAgg259
  z119 := Tryz.sizeOf259
  t138 := Tryz.underlying261
  a138 := Tryz.isAgg261
  z138 := Tryz.sizeOf261
  v138 := Tryz.zeroValue261
  t139 := Tryz.underlying262
  a139 := Tryz.isAgg262
  z139 := Tryz.sizeOf262
  v139 := Tryz.zeroValue262
  t146 := Tryz.underlying193
  a146 := Tryz.isAgg193
  z146 := Tryz.sizeOf193
  v146 := Tryz.zeroValue193
  g1 := by kernel_rfl
  g3 := by kernel_rfl
  g4 := by kernel_rfl }
open Go.RowKit Go.Lib in
/-- strings.Split. (LAID: no walk: one application.) -/
theorem Tryz.strings_Split (s sep : ByteArray) (m : Int) (w : World) (hs : s.size < 4294967281) (hm : w.cell? ⟨0, 0, none⟩ = some (.int .i64 m)) (h1 : 1 ≤ sep.size) :
    Calls Tryz.prog 145 #[.string s, .string sep] w fun e w' =>
      e = .returned (.slice (some ⟨w.heap.size, 0, none⟩) (Lib.countB s sep + 1) (Lib.countB s sep + 1)) ∧ w' = w.alloc (.cells ((Lib.splitB sep 0 (Lib.countB s sep) s).map Value.string).toArray 9) := Any.strings_Split Tryz.lays146 (by kernel_rfl) s sep m w hs hm h1
end Go.Proofs

/- strings.Split at one byte, in the program's library and in the reference. -/
set_option linter.unusedVariables false
set_option linter.unusedSimpArgs false
namespace Go.Proofs.YtbeoijlggphklaaGreatDoor
open Go.Abs

theorem parts_one {c x : UInt8} {s : List UInt8} : ∃ p ps, parts c s = p :: ps ∧ parts c (x :: s) = if x = c then [] :: p :: ps else (x :: p) :: ps := by
  cases h : parts c s with
  | nil => exact absurd h (parts_ne s)
  | cons p ps =>
    refine ⟨p, ps, rfl, ?_⟩
    rw [parts, h]
theorem parts_count (c : UInt8) : ∀ s : List UInt8, (parts c s).length = Lib.countByte s c + 1
  | [] => rfl
  | x :: s => by
    obtain ⟨p, ps, h1, h2⟩ := parts_one (c := c) (x := x) (s := s)
    have ih := parts_count c s
    rw [h1] at ih
    unfold Lib.countByte at ih ⊢
    rw [h2, List.count_cons]
    by_cases e : x = c
    · simp [e] at ih ⊢; omega
    · simp [e] at ih ⊢; omega
theorem count_le (c : UInt8) (s : List UInt8) : Lib.countByte s c ≤ s.length := List.count_le_length
theorem indexByte_cut {c : UInt8} : ∀ {s : List UInt8}, c ∈ s → Lib.indexByte s c = (cut0 c s).length
  | [], h => by simp at h
  | x :: s, h => by
    rw [Lib.indexByte]
    by_cases e : x = c
    · subst e; simp [cut0]
    · have e' : (x == c) = false := by simpa using e
      have hs : c ∈ s := by
        rcases List.mem_cons.1 h with h | h
        · exact absurd h.symm e
        · exact h
      have ih := indexByte_cut hs
      have hn : (Lib.indexByte s c == -1) = false := by rw [ih]; simp
      rw [e', hn, ih]
      simp [cut0, e]
theorem parts_mem {c : UInt8} {s : List UInt8} (h : c ∈ s) : parts c s = cut0 c s :: parts c (cut1 c s) := by
  obtain ⟨h1, h2⟩ := cut_split h
  have := parts_at (b := cut1 c s) h2
  rwa [← h1] at this
theorem cut_len {c : UInt8} {s : List UInt8} (h : c ∈ s) : (cut0 c s).length + 1 + (cut1 c s).length = s.length := by
  have h1 := (cut_split h).1
  have := congrArg List.length h1
  simp at this; omega

theorem cut_take {c : UInt8} {s : List UInt8} (h : c ∈ s) : s.take (cut0 c s).length = cut0 c s := by
  have h1 := (cut_split h).1
  generalize cut0 c s = a at h1
  generalize cut1 c s = b at h1
  subst h1
  simp
theorem cut_drop {c : UInt8} {s : List UInt8} (h : c ∈ s) : s.drop ((cut0 c s).length + 1) = cut1 c s := by
  have h1 := (cut_split h).1
  generalize cut0 c s = a at h1
  generalize cut1 c s = b at h1
  subst h1
  rw [show a ++ c :: b = (a ++ [c]) ++ b by simp, show a.length + 1 = (a ++ [c]).length by simp, List.drop_left]

theorem strings_Count (s : List UInt8) (c : UInt8) : PCall Tryz.prog n_strings_Count [S s, S [c]] (I (Lib.countByte s c)) :=
  PCall.same (vs := [.string (bs s), .string (bs [c])]) (y := .int .i64 (Lib.countByte s c)) (by kernel_rfl) (fun _ _ => CV_mkv rfl) (fun w _ _ => Tryz.strings_Count_one (bs s) c w)
theorem strings_Index (s : List UInt8) (c : UInt8) : PCall Tryz.prog n_strings_Index [S s, S [c]] (I (Lib.indexByte s c)) :=
  PCall.same (vs := [.string (bs s), .string (bs [c])]) (y := .int .i64 (Lib.indexByte s c)) (by kernel_rfl) (fun _ _ => CV_mkv rfl) (fun w _ _ => Tryz.strings_Index_one (bs s) c w)

theorem strings_genSplit (s : List UInt8) (c : UInt8) (hs : s.length ≤ 1048576) : PCall Tryz.prog n_strings_genSplit [S s, S [c], I 0, I (-1)] (.own 1 ((parts c s).map S)) := by
  refine PCall.of fn_strings_genSplit (by simp) ?_
  have hc := parts_count c s
  have hl := count_le c s
  simp [c_strings_genSplit, r_strings_genSplit_0, r_strings_genSplit_1]
  simp [r_strings_genSplit_3]
  simp [r_strings_genSplit_5]
  simp [r_strings_genSplit_6]
  refine callQ_v (strings_Count s c) ?_
  simp
  rw [wrap64 (by omega) (by omega)]
  simp [r_strings_genSplit_7]
  rw [wrap64 (by omega) (by omega)]
  simp [r_strings_genSplit_8]
  rw [if_neg (by omega)]
  have hn : ((Lib.countByte s c : Int) + 1).toNat = Lib.countByte s c + 1 := by omega
  rw [hn]
  refine ⟨⟨by omega, by simp [lenBound]; omega⟩, ?_⟩
  simp [r_strings_genSplit_9]
  rw [wrap64 (by omega) (by omega)]
  simp [r_strings_genSplit_10, r_strings_genSplit_18]
  generalize hN : Lib.countByte s c = N at hc hl hn ⊢
  refine loopK (fun x : List (List UInt8) × List UInt8 => ⟨[(0, S x.2), (1, S [c]), (2, I 0), (3, I N), (9, .sl 31 0 (N + 1)), (10, I x.1.length)], [(31, ⟨1, x.1.map S ++ List.replicate (N + 1 - x.1.length) (S [])⟩)], []⟩) (fun x => N + 1 - x.1.length)
    (fun x => x.1.length ≤ N ∧ x.2.length ≤ s.length ∧ parts c s = x.1 ++ parts c x.2) ([], s) (Wk.list rfl (by simp) (by simp)) (by simp) ?_
  rintro ⟨ps, r⟩ ⟨h1, h2, h3⟩ K hN hR hE
  dsimp only at h1 h2 h3 ⊢
  have hlen : (ps.map S).length = ps.length := List.length_map ..
  have h4 := congrArg List.length h3
  rw [hc, List.length_append] at h4
  simp [r_strings_genSplit_11, l_strings_genSplit_17]
  refine ⟨fun hlt => ?_, fun hge => ?_⟩
  · have hm : c ∈ r := (parts_len r).1 (by omega)
    have hcl := cut_len hm
    have hpm := parts_mem hm
    have hi := indexByte_cut hm
    simp [r_strings_genSplit_12]
    refine callQ_v (strings_Index r c) ?_
    rw [hi]
    simp [r_strings_genSplit_13]
    refine ⟨fun h => absurd h (by omega), ?_⟩
    simp [r_strings_genSplit_14]
    rw [wrap64 (by omega) (by omega)]
    have ht : r.take (cut0 c r).length = cut0 c r := cut_take hm
    have hd : r.drop ((cut0 c r).length + 1) = cut1 c r := cut_drop hm
    have hlt' : ps.length < N + 1 := by omega
    simp [hlt', half_get hlen hlt', half_set hlen hlt', ht]
    refine ⟨by omega, by omega, ?_⟩
    simp [r_strings_genSplit_15]
    rw [wrap64 (by omega) (by omega)]
    refine ⟨⟨by omega, by omega⟩, ?_⟩
    have e1 : ((cut0 c r).length + 1 : Int).toNat = (cut0 c r).length + 1 := by omega
    rw [e1, hd, List.take_of_length_le (by omega)]
    simp [r_strings_genSplit_16]
    rw [wrap64 (by omega) (by omega)]
    refine hN (ps ++ [cut0 c r], cut1 c r) _ (by simp; omega) ⟨by simp; omega, by simp; omega, by rw [h3, hpm]; simp⟩ (Wk.list rfl (by simp) ?_)
    simp
    have := half_set (v := S (cut0 c r)) (z := S []) hlen hlt'
    rw [List.set_append_right _ _ (by omega)] at this
    simpa using this
  · refine hE _ _ ?_
    have hnm : c ∉ r := fun hm => by have := (parts_len r).2 hm; omega
    have hlt' : ps.length < N + 1 := by omega
    obtain rfl : ps.length = N := by omega
    rw [parts_none hnm] at h3
    simp only [blockK_exit]
    simp [r_strings_genSplit_18, half_get hlen hlt', half_set hlen hlt']
    refine ⟨by omega, ?_⟩
    simp [r_strings_genSplit_19]
    rw [wrap64 (by omega) (by omega)]
    simp [h3]
    omega
theorem strings_Split (s : List UInt8) (c : UInt8) (hs : s.length ≤ 1048576) : PCall Tryz.prog n_strings_Split [S s, S [c]] (.own 1 ((parts c s).map S)) := by
  refine PCall.of fn_strings_Split (by simp) ?_
  simp [c_strings_Split, r_strings_Split_0, r_strings_Split_1]
  refine callQ_of (strings_genSplit s c hs) rfl (.inl (by simp)) (by simp) ?_
  simp
end Go.Proofs.YtbeoijlggphklaaGreatDoor

/- The compact code of the functions, and that it is theirs: written by a program of this claim. -/
namespace Go.Proofs.YtbeoijlggphklaaGreatDoor
open Go.Abs
set_option maxRecDepth 100000
def r_s_l1Split_0 : List CO := [⟨none, (some 4), (.mv (.k (.v (.slice none 0 0))))⟩]
def r_s_l1Split_1 : List CO := [⟨none, (some 8), (.bslice 1 (.v (.string (bs []))) 0 [])⟩, ⟨none, (some 5), (.mv (.t 8))⟩]
def r_s_l1Split_2 : List CO := [⟨none, (some 6), (.mv (.k (.v (.int .i64 (0)))))⟩]
def r_s_l1Split_3 : List CO := [⟨none, (some 7), (.mv (.k (.v (.int .i64 (0)))))⟩]
def r_s_l1Split_4 : List CO := [⟨none, (some 9), (.mv (.t 7))⟩, ⟨none, (some 10), (.mv (.t 0))⟩, ⟨none, (some 11), (.len true (.t 10))⟩, ⟨none, (some 12), (.bin .lss .none (.t 9) (.t 11))⟩]
def r_s_l1Split_5 : List CO := [⟨none, (some 15), (.mv (.t 0))⟩, ⟨none, (some 16), (.mv (.t 7))⟩, ⟨none, (some 17), (.idx (.t 15) (.t 16))⟩, ⟨none, (some 18), (.mv (.t 1))⟩, ⟨none, (some 19), (.bin .eql .none (.t 17) (.t 18))⟩]
def r_s_l1Split_6 : List CO := [⟨none, (some 20), (.mv (.t 5))⟩, ⟨none, (some 21), (.mv (.t 0))⟩, ⟨none, (some 22), (.mv (.t 6))⟩, ⟨none, (some 23), (.mv (.t 7))⟩, ⟨none, (some 24), (.slc none (.t 21) (some (.t 22)) (some (.t 23)))⟩, ⟨none, (some 25), (.bslice 1 (.v (.string (bs []))) 1 [(0, (.t 24))])⟩, ⟨none, (some 26), (.app 1 16 (.t 20) (.t 25))⟩, ⟨none, (some 5), (.mv (.t 26))⟩]
def r_s_l1Split_7 : List CO := [⟨none, (some 27), (.mv (.t 7))⟩, ⟨none, (some 28), (.bin .add .none (.t 27) (.k (.v (.int .i64 (1)))))⟩, ⟨none, (some 6), (.mv (.t 28))⟩]
def r_s_l1Split_8 : List CO := [⟨none, (some 13), (.mv (.t 7))⟩, ⟨none, (some 14), (.bin .add .none (.t 13) (.k (.v (.int .i64 (1)))))⟩, ⟨none, (some 7), (.mv (.t 14))⟩]
def l_s_l1Split_9 : C := (.seq (.seq (.reg r_s_l1Split_4 [0, 1, 5, 6, 7, 12]) (.cond (.t 12) .skip (.exit 0))) (.seq (.block 1 (.seq (.reg r_s_l1Split_5 [0, 1, 5, 6, 7, 19]) (.cond (.t 19) (.seq (.reg r_s_l1Split_6 [0, 1, 5, 7]) (.reg r_s_l1Split_7 [0, 1, 5, 6, 7])) .skip))) (.reg r_s_l1Split_8 [0, 1, 5, 6, 7])))
def r_s_l1Split_10 : List CO := [⟨none, (some 29), (.mv (.t 5))⟩, ⟨none, (some 30), (.mv (.t 0))⟩, ⟨none, (some 31), (.mv (.t 6))⟩, ⟨none, (some 32), (.slc none (.t 30) (some (.t 31)) none)⟩, ⟨none, (some 33), (.bslice 1 (.v (.string (bs []))) 1 [(0, (.t 32))])⟩, ⟨none, (some 34), (.app 1 16 (.t 29) (.t 33))⟩, ⟨none, (some 4), (.mv (.t 34))⟩]
/-- loop.example/g00884/spec.l1Split -/
def c_s_l1Split : C := (.seq (.reg r_s_l1Split_0 [0, 1]) (.seq (.reg r_s_l1Split_1 [0, 1, 5]) (.seq (.reg r_s_l1Split_2 [0, 1, 5, 6]) (.seq (.seq (.reg r_s_l1Split_3 [0, 1, 5, 6, 7]) (.block 0 (.loop l_s_l1Split_9))) (.seq (.reg r_s_l1Split_10 [4]) .ret)))))
def k_s_l1Split : Nat → List Nat
  | 0 => [0, 1]
  | 1 => [0, 1, 5]
  | 2 => [0, 1, 5, 6]
  | 3 => [0, 1, 5, 6, 7]
  | 4 => [0, 1, 5, 6, 7, 12]
  | 6 => [0, 1, 5, 6, 7, 19]
  | 7 => [0, 1, 5, 7]
  | 8 => [0, 1, 5, 6, 7]
  | 5 => [0, 1, 5, 6, 7]
  | 9 => [4]
  | _ => []
theorem fn_s_l1Split : FnC Tryz.prog n_s_l1Split c_s_l1Split [(.tmp 4)] 35 :=
  ⟨Tryz.f92, _, k_s_l1Split, Tryz.func92, rfl, by kernel_rfl, by kernel_rfl, by kernel_rfl, rfl⟩
end Go.Proofs.YtbeoijlggphklaaGreatDoor

/- The reference's split of a text at a byte. -/
set_option linter.unusedVariables false
set_option linter.unusedSimpArgs false
namespace Go.Proofs.YtbeoijlggphklaaGreatDoor
open Go.Abs

theorem s_l1Split (s : List UInt8) (c : UInt8) (hs : s.length ≤ 4000000) : PCall Tryz.prog n_s_l1Split [S s, Y c] (.own 1 ((parts c s).map S)) := by
  refine PCall.of fn_s_l1Split (by simp) ?_
  simp [c_s_l1Split, r_s_l1Split_0, r_s_l1Split_1, r_s_l1Split_2, r_s_l1Split_3, l_s_l1Split_9]
  refine loopK (fun p : List (List UInt8) × Nat × Nat => ⟨[(0, S s), (1, Y c), (5, .sl 8 0 p.1.length), (6, I p.2.1), (7, I p.2.2)], [(8, ⟨1, p.1.map S⟩)], []⟩) (fun p => s.length - p.2.2)
    (fun p => (p.2.1 ≤ p.2.2 ∧ p.2.2 ≤ s.length ∧ p.1.length ≤ p.2.2) ∧ parts c s = p.1 ++ parts c (s.drop p.2.1) ∧ c ∉ (s.drop p.2.1).take (p.2.2 - p.2.1)) ([], 0, 0) (Wk.list rfl (by simp) (by simp)) (by simp) ?_
  rintro ⟨done, j, i⟩ ⟨⟨hji, hi, hd⟩, hp, hc⟩ K hN hR hE
  dsimp only at hji hi hd hp hc
  simp [r_s_l1Split_4]
  refine ⟨fun hlt => ?_, fun hge => ?_⟩
  · have hdr : (s.drop j).drop (i - j) = s[i] :: s.drop (i + 1) := by rw [List.drop_drop, show j + (i - j) = i by omega, List.drop_eq_getElem_cons hlt]
    simp [r_s_l1Split_5, hlt]
    refine ⟨fun h => ?_, fun h => ?_⟩
    · have hsplit : parts c (s.drop j) = (s.drop j).take (i - j) :: parts c (s.drop (i + 1)) := by
        conv => lhs; rw [← List.take_append_drop (i - j) (s.drop j), hdr, h]
        exact parts_at hc
      simp [r_s_l1Split_6]
      refine ⟨by omega, by unfold lenBound; omega, ?_⟩
      simp [r_s_l1Split_7]
      rw [wrap64 (by omega) (by omega)]
      simp [r_s_l1Split_8]
      rw [wrap64 (by omega) (by omega)]
      refine hN (done ++ [(s.drop j).take (i - j)], i + 1, i + 1) _ (by dsimp only; omega) ⟨⟨by dsimp only; omega, by dsimp only; omega, by simp; omega⟩, ?_, by simp⟩ (Wk.trans (Wk.ren 26 8 (by decide) (by simp)) (Wk.list rfl ?_ ?_))
      · rw [hp, hsplit]; simp
      · simp [AS.ren, ren, reN]
      · simp [AS.ren, ren, reN, renB]
    · simp [r_s_l1Split_8]
      rw [wrap64 (by omega) (by omega)]
      refine hN (done, j, i + 1) _ (by dsimp only; omega) ⟨⟨by dsimp only; omega, by dsimp only; omega, by dsimp only; omega⟩, hp, ?_⟩ (Wk.list rfl (by simp) (by simp))
      dsimp only
      have hl : i - j < (s.drop j).length := by rw [List.length_drop]; omega
      rw [show i + 1 - j = i - j + 1 by omega, ← List.take_append_getElem hl, List.mem_append, List.mem_singleton]
      rintro (h' | h')
      · exact hc h'
      · refine h ?_
        rw [h', List.getElem_drop]
        congr 1; omega
  · refine hE _ _ ?_
    obtain rfl : i = s.length := by omega
    have hn : c ∉ s.drop j := by
      rw [List.take_of_length_le (by rw [List.length_drop]; omega)] at hc
      exact hc
    rw [parts_none hn] at hp
    simp only [blockK_exit]
    simp [r_s_l1Split_10]
    rw [List.take_of_length_le (by rw [List.length_drop]; omega), hp]
    exact ⟨by omega, by unfold lenBound; omega, by simp⟩
end Go.Proofs.YtbeoijlggphklaaGreatDoor

/- Mottoes as plain rows of bytes: the test, words, lines that are filled. No program in sight. -/
set_option linter.unusedVariables false
set_option linter.unusedSimpArgs false
namespace Go.Proofs.YtbeoijlggphklaaGreatDoor
open Go.Abs

theorem parts_cons (c : UInt8) (x : UInt8) (s : List UInt8) : ∃ p ps, parts c s = p :: ps ∧ parts c (x :: s) = if x = c then [] :: p :: ps else (x :: p) :: ps := by
  cases h : parts c s with
  | nil => exact absurd h (parts_ne s)
  | cons p ps =>
    refine ⟨p, ps, rfl, ?_⟩
    rw [parts, h]
/-! ### Lines that are filled -/
/-- cur stands in the line; the other words follow. -/
def fillGo (w : Int) : List UInt8 → List (List UInt8) → List (List UInt8)
  | cur, [] => [cur]
  | cur, x :: xs => if (cur.length : Int) + 1 + x.length ≤ w then fillGo w (cur ++ 32 :: x) xs else cur :: fillGo w x xs
def fill (w : Int) : List (List UInt8) → List (List UInt8)
  | [] => []
  | x :: xs => fillGo w x xs
end Go.Proofs.YtbeoijlggphklaaGreatDoor
