/- Parts of the proof, merged: CodeConsoleT, CodeGrantRow, CodeMarkText, Texts, MarkText, GrantRow, CodeEqLog, LogT, EqLog, ConsoleT, CodeWLogs, CodeLogs, CodeLogRead, CodeCuts, CodeNum, CodeRec, Rec, LogMath, CodeNum0, Num0, Num, CodeSpecSplit, SpecSplit, Cuts, LogRead, Logs, WLogs, WIsCon, CodePieces2, CodePieces, CodeBlazon2, CodeBlazon. -/
import Derived.Lib.ItoaNum
import Derived.Test.YtbeoijlggphklaaGreatDoorAbs4
import Derived.Test.YtbeoijlggphklaaGreatDoorShelf
import Derived.Test.YtbeoijlggphklaaGreatDoorPFormatConsole1
/- The compact code of the functions, and that it is theirs: written by a program of this claim. -/
namespace Go.Proofs.YtbeoijlggphklaaGreatDoor
open Go.Abs
set_option maxRecDepth 100000
def r_w_eqConsole_0 : List CO := [⟨none, (some 2), (.box 4 (.t 0))⟩, ⟨none, (some 3), (.box 4 (.t 1))⟩, ⟨none, (some 4), (.mv (.k (.v (.bool false))))⟩]
def r_w_eqConsole_1 : List CO := [⟨none, (some 5), (.faddr 0 (.t 2))⟩, ⟨none, (some 6), (.ld true 1 (.t 5))⟩, ⟨none, (some 7), (.faddr 0 (.t 3))⟩, ⟨none, (some 8), (.ld true 1 (.t 7))⟩, ⟨none, (some 9), (.call n_w_eqRegister [(.t 6), (.t 8)])⟩, ⟨none, (some 10), (.un .not (.t 9))⟩]
def r_w_eqConsole_2 : List CO := [⟨none, (some 4), (.mv (.k (.v (.bool false))))⟩]
def r_w_eqConsole_3 : List CO := [⟨none, (some 11), (.faddr 1 (.t 2))⟩, ⟨none, (some 12), (.ld true 3 (.t 11))⟩, ⟨none, (some 13), (.faddr 1 (.t 3))⟩, ⟨none, (some 14), (.ld true 3 (.t 13))⟩, ⟨none, (some 15), (.call n_w_eqLog [(.t 12), (.t 14)])⟩, ⟨none, (some 16), (.un .not (.t 15))⟩]
def r_w_eqConsole_4 : List CO := [⟨none, (some 4), (.mv (.k (.v (.bool false))))⟩]
def r_w_eqConsole_5 : List CO := [⟨none, (some 4), (.mv (.k (.v (.bool true))))⟩]
/-- loop.example/g00884/laws.eqConsole -/
def c_w_eqConsole : C := (.seq (.reg r_w_eqConsole_0 [2, 3]) (.seq (.seq (.reg r_w_eqConsole_1 [2, 3, 10]) (.cond (.t 10) (.seq (.reg r_w_eqConsole_2 [4]) .ret) .skip)) (.seq (.seq (.reg r_w_eqConsole_3 [16]) (.cond (.t 16) (.seq (.reg r_w_eqConsole_4 [4]) .ret) .skip)) (.seq (.reg r_w_eqConsole_5 [4]) .ret))))
def k_w_eqConsole : Nat → List Nat
  | 0 => [2, 3]
  | 1 => [2, 3, 10]
  | 2 => [4]
  | 3 => [16]
  | 4 => [4]
  | 5 => [4]
  | _ => []
theorem fn_w_eqConsole : FnC Tryz.prog n_w_eqConsole c_w_eqConsole [(.tmp 4)] 17 :=
  ⟨Tryz.f23, _, k_w_eqConsole, Tryz.func23, rfl, by kernel_rfl, by kernel_rfl, by kernel_rfl, rfl⟩
def r_w_markRegister_0 : List CO := [⟨none, (some 2), (.box 1 (.t 0))⟩, ⟨none, (some 4), (.mv (.k (.v (.int .i64 (0)))))⟩]
def r_w_markRegister_1 : List CO := [⟨none, (some 5), (.faddr 0 (.t 2))⟩, ⟨none, (some 6), (.ld false 1 (.t 5))⟩, ⟨none, (some 7), (.mv (.t 1))⟩, ⟨none, (some 8), (.call n_w_markGrantS [(.t 6), (.t 7)])⟩, ⟨none, (some 1), (.mv (.t 8))⟩]
def r_w_markRegister_2 : List CO := [⟨none, (some 9), (.mv (.t 1))⟩, ⟨none, (some 4), (.mv (.t 9))⟩]
/-- loop.example/g00884/laws.markRegister -/
def c_w_markRegister : C := (.seq (.reg r_w_markRegister_0 [1, 2]) (.seq (.reg r_w_markRegister_1 [1]) (.seq (.reg r_w_markRegister_2 [4]) .ret)))
def k_w_markRegister : Nat → List Nat
  | 0 => [1, 2]
  | 1 => [1]
  | 2 => [4]
  | _ => []
theorem fn_w_markRegister : FnC Tryz.prog n_w_markRegister c_w_markRegister [(.tmp 4)] 10 :=
  ⟨Tryz.f35, _, k_w_markRegister, Tryz.func35, rfl, by kernel_rfl, by kernel_rfl, by kernel_rfl, rfl⟩
end Go.Proofs.YtbeoijlggphklaaGreatDoor

/- The compact code of the functions, and that it is theirs: written by a program of this claim. -/
namespace Go.Proofs.YtbeoijlggphklaaGreatDoor
open Go.Abs
set_option maxRecDepth 100000
def r_w_markGrantS_0 : List CO := [⟨none, (some 4), (.mv (.k (.v (.int .i64 (0)))))⟩]
def r_w_markGrantS_1 : List CO := [⟨none, (some 5), (.mv (.k (.v (.int .i64 (0)))))⟩]
def r_w_markGrantS_2 : List CO := [⟨none, (some 6), (.mv (.t 5))⟩, ⟨none, (some 7), (.mv (.t 0))⟩, ⟨none, (some 8), (.len false (.t 7))⟩, ⟨none, (some 9), (.bin .lss .none (.t 6) (.t 8))⟩]
def r_w_markGrantS_3 : List CO := [⟨none, (some 12), (.mv (.t 0))⟩, ⟨none, (some 13), (.mv (.t 5))⟩, ⟨none, (some 14), (.mv (.t 1))⟩, ⟨none, (some 15), (.iaddr 18 (.t 12) (.t 13))⟩, ⟨none, (some 16), (.faddr 0 (.t 15))⟩, ⟨none, none, (.st 1 (.t 16) (.t 14))⟩]
def r_w_markGrantS_4 : List CO := [⟨none, (some 17), (.mv (.t 1))⟩, ⟨none, (some 18), (.bin .add .none (.t 17) (.k (.v (.int .i64 (1)))))⟩, ⟨none, (some 1), (.mv (.t 18))⟩]
def r_w_markGrantS_5 : List CO := [⟨none, (some 19), (.mv (.t 0))⟩, ⟨none, (some 20), (.mv (.t 5))⟩, ⟨none, (some 21), (.mv (.t 1))⟩, ⟨none, (some 22), (.call n_w_markText [(.t 21)])⟩, ⟨none, (some 23), (.iaddr 18 (.t 19) (.t 20))⟩, ⟨none, (some 24), (.faddr 1 (.t 23))⟩, ⟨none, none, (.st 1 (.t 24) (.t 22))⟩]
def r_w_markGrantS_6 : List CO := [⟨none, (some 25), (.mv (.t 1))⟩, ⟨none, (some 26), (.bin .add .none (.t 25) (.k (.v (.int .i64 (1)))))⟩, ⟨none, (some 1), (.mv (.t 26))⟩]
def r_w_markGrantS_7 : List CO := [⟨none, (some 27), (.mv (.t 0))⟩, ⟨none, (some 28), (.mv (.t 5))⟩, ⟨none, (some 29), (.mv (.t 1))⟩, ⟨none, (some 30), (.iaddr 18 (.t 27) (.t 28))⟩, ⟨none, (some 31), (.faddr 2 (.t 30))⟩, ⟨none, none, (.st 1 (.t 31) (.t 29))⟩]
def r_w_markGrantS_8 : List CO := [⟨none, (some 32), (.mv (.t 1))⟩, ⟨none, (some 33), (.bin .add .none (.t 32) (.k (.v (.int .i64 (1)))))⟩, ⟨none, (some 1), (.mv (.t 33))⟩]
def r_w_markGrantS_9 : List CO := [⟨none, (some 34), (.mv (.t 0))⟩, ⟨none, (some 35), (.mv (.t 5))⟩, ⟨none, (some 36), (.mv (.t 1))⟩, ⟨none, (some 37), (.iaddr 18 (.t 34) (.t 35))⟩, ⟨none, (some 38), (.faddr 3 (.t 37))⟩, ⟨none, (some 39), (.faddr 0 (.t 38))⟩, ⟨none, (some 40), (.faddr 0 (.t 39))⟩, ⟨none, none, (.st 1 (.t 40) (.t 36))⟩]
def r_w_markGrantS_10 : List CO := [⟨none, (some 41), (.mv (.t 1))⟩, ⟨none, (some 42), (.bin .add .none (.t 41) (.k (.v (.int .i64 (1)))))⟩, ⟨none, (some 1), (.mv (.t 42))⟩]
def r_w_markGrantS_11 : List CO := [⟨none, (some 43), (.mv (.t 0))⟩, ⟨none, (some 44), (.mv (.t 5))⟩, ⟨none, (some 45), (.mv (.t 1))⟩, ⟨none, (some 46), (.iaddr 18 (.t 43) (.t 44))⟩, ⟨none, (some 47), (.faddr 3 (.t 46))⟩, ⟨none, (some 48), (.faddr 0 (.t 47))⟩, ⟨none, (some 49), (.faddr 1 (.t 48))⟩, ⟨none, none, (.st 1 (.t 49) (.t 45))⟩]
def r_w_markGrantS_12 : List CO := [⟨none, (some 50), (.mv (.t 1))⟩, ⟨none, (some 51), (.bin .add .none (.t 50) (.k (.v (.int .i64 (1)))))⟩, ⟨none, (some 1), (.mv (.t 51))⟩]
def r_w_markGrantS_13 : List CO := [⟨none, (some 52), (.mv (.t 0))⟩, ⟨none, (some 53), (.mv (.t 5))⟩, ⟨none, (some 54), (.mv (.t 1))⟩, ⟨none, (some 55), (.iaddr 18 (.t 52) (.t 53))⟩, ⟨none, (some 56), (.faddr 3 (.t 55))⟩, ⟨none, (some 57), (.faddr 0 (.t 56))⟩, ⟨none, (some 58), (.faddr 2 (.t 57))⟩, ⟨none, none, (.st 1 (.t 58) (.t 54))⟩]
def r_w_markGrantS_14 : List CO := [⟨none, (some 59), (.mv (.t 1))⟩, ⟨none, (some 60), (.bin .add .none (.t 59) (.k (.v (.int .i64 (1)))))⟩, ⟨none, (some 1), (.mv (.t 60))⟩]
def r_w_markGrantS_15 : List CO := [⟨none, (some 61), (.mv (.t 0))⟩, ⟨none, (some 62), (.mv (.t 5))⟩, ⟨none, (some 63), (.mv (.t 1))⟩, ⟨none, (some 64), (.iaddr 18 (.t 61) (.t 62))⟩, ⟨none, (some 65), (.faddr 3 (.t 64))⟩, ⟨none, (some 66), (.faddr 0 (.t 65))⟩, ⟨none, (some 67), (.faddr 3 (.t 66))⟩, ⟨none, none, (.st 1 (.t 67) (.t 63))⟩]
def r_w_markGrantS_16 : List CO := [⟨none, (some 68), (.mv (.t 1))⟩, ⟨none, (some 69), (.bin .add .none (.t 68) (.k (.v (.int .i64 (1)))))⟩, ⟨none, (some 1), (.mv (.t 69))⟩]
def r_w_markGrantS_17 : List CO := [⟨none, (some 70), (.mv (.t 0))⟩, ⟨none, (some 71), (.mv (.t 5))⟩, ⟨none, (some 72), (.mv (.t 1))⟩, ⟨none, (some 73), (.iaddr 18 (.t 70) (.t 71))⟩, ⟨none, (some 74), (.faddr 3 (.t 73))⟩, ⟨none, (some 75), (.faddr 4 (.t 74))⟩, ⟨none, none, (.st 1 (.t 75) (.t 72))⟩]
def r_w_markGrantS_18 : List CO := [⟨none, (some 76), (.mv (.t 1))⟩, ⟨none, (some 77), (.bin .add .none (.t 76) (.k (.v (.int .i64 (1)))))⟩, ⟨none, (some 1), (.mv (.t 77))⟩]
def r_w_markGrantS_19 : List CO := [⟨none, (some 78), (.mv (.t 0))⟩, ⟨none, (some 79), (.mv (.t 5))⟩, ⟨none, (some 80), (.mv (.t 1))⟩, ⟨none, (some 81), (.iaddr 18 (.t 78) (.t 79))⟩, ⟨none, (some 82), (.faddr 3 (.t 81))⟩, ⟨none, (some 83), (.faddr 5 (.t 82))⟩, ⟨none, none, (.st 1 (.t 83) (.t 80))⟩]
def r_w_markGrantS_20 : List CO := [⟨none, (some 84), (.mv (.t 1))⟩, ⟨none, (some 85), (.bin .add .none (.t 84) (.k (.v (.int .i64 (1)))))⟩, ⟨none, (some 1), (.mv (.t 85))⟩]
def r_w_markGrantS_21 : List CO := [⟨none, (some 86), (.mv (.t 0))⟩, ⟨none, (some 87), (.mv (.t 5))⟩, ⟨none, (some 88), (.mv (.t 1))⟩, ⟨none, (some 89), (.iaddr 18 (.t 86) (.t 87))⟩, ⟨none, (some 90), (.faddr 3 (.t 89))⟩, ⟨none, (some 91), (.faddr 6 (.t 90))⟩, ⟨none, none, (.st 1 (.t 91) (.t 88))⟩]
def r_w_markGrantS_22 : List CO := [⟨none, (some 92), (.mv (.t 1))⟩, ⟨none, (some 93), (.bin .add .none (.t 92) (.k (.v (.int .i64 (1)))))⟩, ⟨none, (some 1), (.mv (.t 93))⟩]
def r_w_markGrantS_23 : List CO := [⟨none, (some 94), (.mv (.t 0))⟩, ⟨none, (some 95), (.mv (.t 5))⟩, ⟨none, (some 96), (.mv (.t 1))⟩, ⟨none, (some 97), (.iaddr 18 (.t 94) (.t 95))⟩, ⟨none, (some 98), (.faddr 3 (.t 97))⟩, ⟨none, (some 99), (.faddr 7 (.t 98))⟩, ⟨none, (some 100), (.faddr 0 (.t 99))⟩, ⟨none, none, (.st 1 (.t 100) (.t 96))⟩]
def r_w_markGrantS_24 : List CO := [⟨none, (some 101), (.mv (.t 1))⟩, ⟨none, (some 102), (.bin .add .none (.t 101) (.k (.v (.int .i64 (1)))))⟩, ⟨none, (some 1), (.mv (.t 102))⟩]
def r_w_markGrantS_25 : List CO := [⟨none, (some 103), (.mv (.t 0))⟩, ⟨none, (some 104), (.mv (.t 5))⟩, ⟨none, (some 105), (.mv (.t 1))⟩, ⟨none, (some 106), (.iaddr 18 (.t 103) (.t 104))⟩, ⟨none, (some 107), (.faddr 3 (.t 106))⟩, ⟨none, (some 108), (.faddr 7 (.t 107))⟩, ⟨none, (some 109), (.faddr 1 (.t 108))⟩, ⟨none, none, (.st 1 (.t 109) (.t 105))⟩]
def r_w_markGrantS_26 : List CO := [⟨none, (some 110), (.mv (.t 1))⟩, ⟨none, (some 111), (.bin .add .none (.t 110) (.k (.v (.int .i64 (1)))))⟩, ⟨none, (some 1), (.mv (.t 111))⟩]
def r_w_markGrantS_27 : List CO := [⟨none, (some 112), (.mv (.t 0))⟩, ⟨none, (some 113), (.mv (.t 5))⟩, ⟨none, (some 114), (.mv (.t 1))⟩, ⟨none, (some 115), (.iaddr 18 (.t 112) (.t 113))⟩, ⟨none, (some 116), (.faddr 3 (.t 115))⟩, ⟨none, (some 117), (.faddr 7 (.t 116))⟩, ⟨none, (some 118), (.faddr 2 (.t 117))⟩, ⟨none, none, (.st 1 (.t 118) (.t 114))⟩]
def r_w_markGrantS_28 : List CO := [⟨none, (some 119), (.mv (.t 1))⟩, ⟨none, (some 120), (.bin .add .none (.t 119) (.k (.v (.int .i64 (1)))))⟩, ⟨none, (some 1), (.mv (.t 120))⟩]
def r_w_markGrantS_29 : List CO := [⟨none, (some 121), (.mv (.t 0))⟩, ⟨none, (some 122), (.mv (.t 5))⟩, ⟨none, (some 123), (.mv (.t 1))⟩, ⟨none, (some 124), (.iaddr 18 (.t 121) (.t 122))⟩, ⟨none, (some 125), (.faddr 3 (.t 124))⟩, ⟨none, (some 126), (.faddr 7 (.t 125))⟩, ⟨none, (some 127), (.faddr 3 (.t 126))⟩, ⟨none, none, (.st 1 (.t 127) (.t 123))⟩]
def r_w_markGrantS_30 : List CO := [⟨none, (some 128), (.mv (.t 1))⟩, ⟨none, (some 129), (.bin .add .none (.t 128) (.k (.v (.int .i64 (1)))))⟩, ⟨none, (some 1), (.mv (.t 129))⟩]
def r_w_markGrantS_31 : List CO := [⟨none, (some 130), (.mv (.t 0))⟩, ⟨none, (some 131), (.mv (.t 5))⟩, ⟨none, (some 132), (.mv (.t 1))⟩, ⟨none, (some 133), (.iaddr 18 (.t 130) (.t 131))⟩, ⟨none, (some 134), (.faddr 3 (.t 133))⟩, ⟨none, (some 135), (.faddr 11 (.t 134))⟩, ⟨none, (some 136), (.faddr 0 (.t 135))⟩, ⟨none, none, (.st 1 (.t 136) (.t 132))⟩]
def r_w_markGrantS_32 : List CO := [⟨none, (some 137), (.mv (.t 1))⟩, ⟨none, (some 138), (.bin .add .none (.t 137) (.k (.v (.int .i64 (1)))))⟩, ⟨none, (some 1), (.mv (.t 138))⟩]
def r_w_markGrantS_33 : List CO := [⟨none, (some 139), (.mv (.t 0))⟩, ⟨none, (some 140), (.mv (.t 5))⟩, ⟨none, (some 141), (.mv (.t 1))⟩, ⟨none, (some 142), (.iaddr 18 (.t 139) (.t 140))⟩, ⟨none, (some 143), (.faddr 3 (.t 142))⟩, ⟨none, (some 144), (.faddr 11 (.t 143))⟩, ⟨none, (some 145), (.faddr 1 (.t 144))⟩, ⟨none, none, (.st 1 (.t 145) (.t 141))⟩]
def r_w_markGrantS_34 : List CO := [⟨none, (some 146), (.mv (.t 1))⟩, ⟨none, (some 147), (.bin .add .none (.t 146) (.k (.v (.int .i64 (1)))))⟩, ⟨none, (some 1), (.mv (.t 147))⟩]
def r_w_markGrantS_35 : List CO := [⟨none, (some 148), (.mv (.t 0))⟩, ⟨none, (some 149), (.mv (.t 5))⟩, ⟨none, (some 150), (.mv (.t 1))⟩, ⟨none, (some 151), (.iaddr 18 (.t 148) (.t 149))⟩, ⟨none, (some 152), (.faddr 3 (.t 151))⟩, ⟨none, (some 153), (.faddr 11 (.t 152))⟩, ⟨none, (some 154), (.faddr 2 (.t 153))⟩, ⟨none, none, (.st 1 (.t 154) (.t 150))⟩]
def r_w_markGrantS_36 : List CO := [⟨none, (some 155), (.mv (.t 1))⟩, ⟨none, (some 156), (.bin .add .none (.t 155) (.k (.v (.int .i64 (1)))))⟩, ⟨none, (some 1), (.mv (.t 156))⟩]
def r_w_markGrantS_37 : List CO := [⟨none, (some 157), (.mv (.t 0))⟩, ⟨none, (some 158), (.mv (.t 5))⟩, ⟨none, (some 159), (.mv (.t 1))⟩, ⟨none, (some 160), (.iaddr 18 (.t 157) (.t 158))⟩, ⟨none, (some 161), (.faddr 3 (.t 160))⟩, ⟨none, (some 162), (.faddr 11 (.t 161))⟩, ⟨none, (some 163), (.faddr 3 (.t 162))⟩, ⟨none, none, (.st 1 (.t 163) (.t 159))⟩]
def r_w_markGrantS_38 : List CO := [⟨none, (some 164), (.mv (.t 1))⟩, ⟨none, (some 165), (.bin .add .none (.t 164) (.k (.v (.int .i64 (1)))))⟩, ⟨none, (some 1), (.mv (.t 165))⟩]
def r_w_markGrantS_39 : List CO := [⟨none, (some 10), (.mv (.t 5))⟩, ⟨none, (some 11), (.bin .add .none (.t 10) (.k (.v (.int .i64 (1)))))⟩, ⟨none, (some 5), (.mv (.t 11))⟩]
def l_w_markGrantS_40 : C := (.seq (.seq (.reg r_w_markGrantS_2 [0, 1, 5, 9]) (.cond (.t 9) .skip (.exit 0))) (.seq (.block 1 (.seq (.reg r_w_markGrantS_3 [0, 1, 5]) (.seq (.reg r_w_markGrantS_4 [0, 1, 5]) (.seq (.reg r_w_markGrantS_5 [0, 1, 5]) (.seq (.reg r_w_markGrantS_6 [0, 1, 5]) (.seq (.reg r_w_markGrantS_7 [0, 1, 5]) (.seq (.reg r_w_markGrantS_8 [0, 1, 5]) (.seq (.reg r_w_markGrantS_9 [0, 1, 5]) (.seq (.reg r_w_markGrantS_10 [0, 1, 5]) (.seq (.reg r_w_markGrantS_11 [0, 1, 5]) (.seq (.reg r_w_markGrantS_12 [0, 1, 5]) (.seq (.reg r_w_markGrantS_13 [0, 1, 5]) (.seq (.reg r_w_markGrantS_14 [0, 1, 5]) (.seq (.reg r_w_markGrantS_15 [0, 1, 5]) (.seq (.reg r_w_markGrantS_16 [0, 1, 5]) (.seq (.reg r_w_markGrantS_17 [0, 1, 5]) (.seq (.reg r_w_markGrantS_18 [0, 1, 5]) (.seq (.reg r_w_markGrantS_19 [0, 1, 5]) (.seq (.reg r_w_markGrantS_20 [0, 1, 5]) (.seq (.reg r_w_markGrantS_21 [0, 1, 5]) (.seq (.reg r_w_markGrantS_22 [0, 1, 5]) (.seq (.reg r_w_markGrantS_23 [0, 1, 5]) (.seq (.reg r_w_markGrantS_24 [0, 1, 5]) (.seq (.reg r_w_markGrantS_25 [0, 1, 5]) (.seq (.reg r_w_markGrantS_26 [0, 1, 5]) (.seq (.reg r_w_markGrantS_27 [0, 1, 5]) (.seq (.reg r_w_markGrantS_28 [0, 1, 5]) (.seq (.reg r_w_markGrantS_29 [0, 1, 5]) (.seq (.reg r_w_markGrantS_30 [0, 1, 5]) (.seq (.reg r_w_markGrantS_31 [0, 1, 5]) (.seq (.reg r_w_markGrantS_32 [0, 1, 5]) (.seq (.reg r_w_markGrantS_33 [0, 1, 5]) (.seq (.reg r_w_markGrantS_34 [0, 1, 5]) (.seq (.reg r_w_markGrantS_35 [0, 1, 5]) (.seq (.reg r_w_markGrantS_36 [0, 1, 5]) (.seq (.reg r_w_markGrantS_37 [0, 1, 5]) (.reg r_w_markGrantS_38 [0, 1, 5]))))))))))))))))))))))))))))))))))))) (.reg r_w_markGrantS_39 [0, 1, 5])))
def r_w_markGrantS_41 : List CO := [⟨none, (some 166), (.mv (.t 1))⟩, ⟨none, (some 4), (.mv (.t 166))⟩]
/-- loop.example/g00884/laws.markGrantS -/
def c_w_markGrantS : C := (.seq (.reg r_w_markGrantS_0 [0, 1]) (.seq (.seq (.reg r_w_markGrantS_1 [0, 1, 5]) (.block 0 (.loop l_w_markGrantS_40))) (.seq (.reg r_w_markGrantS_41 [4]) .ret)))
def k_w_markGrantS : Nat → List Nat
  | 0 => [0, 1]
  | 1 => [0, 1, 5]
  | 2 => [0, 1, 5, 9]
  | 4 => [0, 1, 5]
  | 5 => [0, 1, 5]
  | 6 => [0, 1, 5]
  | 7 => [0, 1, 5]
  | 8 => [0, 1, 5]
  | 9 => [0, 1, 5]
  | 10 => [0, 1, 5]
  | 11 => [0, 1, 5]
  | 12 => [0, 1, 5]
  | 13 => [0, 1, 5]
  | 14 => [0, 1, 5]
  | 15 => [0, 1, 5]
  | 16 => [0, 1, 5]
  | 17 => [0, 1, 5]
  | 18 => [0, 1, 5]
  | 19 => [0, 1, 5]
  | 20 => [0, 1, 5]
  | 21 => [0, 1, 5]
  | 22 => [0, 1, 5]
  | 23 => [0, 1, 5]
  | 24 => [0, 1, 5]
  | 25 => [0, 1, 5]
  | 26 => [0, 1, 5]
  | 27 => [0, 1, 5]
  | 28 => [0, 1, 5]
  | 29 => [0, 1, 5]
  | 30 => [0, 1, 5]
  | 31 => [0, 1, 5]
  | 32 => [0, 1, 5]
  | 33 => [0, 1, 5]
  | 34 => [0, 1, 5]
  | 35 => [0, 1, 5]
  | 36 => [0, 1, 5]
  | 37 => [0, 1, 5]
  | 38 => [0, 1, 5]
  | 39 => [0, 1, 5]
  | 3 => [0, 1, 5]
  | 40 => [4]
  | _ => []
theorem fn_w_markGrantS : FnC Tryz.prog n_w_markGrantS c_w_markGrantS [(.tmp 4)] 167 :=
  ⟨Tryz.f75, _, k_w_markGrantS, Tryz.func75, rfl, by kernel_rfl, by kernel_rfl, by kernel_rfl, rfl⟩
end Go.Proofs.YtbeoijlggphklaaGreatDoor

/- The compact code of the functions, and that it is theirs: written by a program of this claim. -/
namespace Go.Proofs.YtbeoijlggphklaaGreatDoor
open Go.Abs
set_option maxRecDepth 100000
def r_w_markText_0 : List CO := [⟨none, (some 2), (.mv (.k (.v (.string (bs [])))))⟩]
def r_w_markText_1 : List CO := [⟨none, (some 4), (.mv (.t 0))⟩, ⟨none, (some 5), (.bin .leq .none (.t 4) (.k (.v (.int .i64 (0)))))⟩]
def r_w_markText_2 : List CO := [⟨none, (some 2), (.mv (.k (.v (.string (bs [109, 48])))))⟩]
def r_w_markText_3 : List CO := [⟨none, (some 3), (.mv (.k (.v (.string (bs [])))))⟩]
def r_w_markText_4 : List CO := [⟨none, (some 6), (.mv (.t 0))⟩, ⟨none, (some 7), (.bin .gtr .none (.t 6) (.k (.v (.int .i64 (0)))))⟩]
def r_w_markText_5 : List CO := [⟨none, (some 8), (.mv (.t 0))⟩, ⟨none, (some 9), (.bin .rem .none (.t 8) (.k (.v (.int .i64 (10)))))⟩, ⟨none, (some 10), (.bin .add .none (.k (.v (.int .i64 (48)))) (.t 9))⟩, ⟨none, (some 11), (.conv (.int .u8) (.t 10))⟩, ⟨none, (some 12), (.bslice 1 (.v (.int .u8 (0))) 1 [(0, (.t 11))])⟩, ⟨none, (some 13), (.conv .bytesStr (.t 12))⟩, ⟨none, (some 14), (.mv (.t 3))⟩, ⟨none, (some 15), (.bin .add .none (.t 13) (.t 14))⟩, ⟨none, (some 3), (.mv (.t 15))⟩]
def r_w_markText_6 : List CO := [⟨none, (some 16), (.mv (.t 0))⟩, ⟨none, (some 17), (.bin .quo .none (.t 16) (.k (.v (.int .i64 (10)))))⟩, ⟨none, (some 0), (.mv (.t 17))⟩]
def l_w_markText_7 : C := (.seq (.seq (.reg r_w_markText_4 [0, 3, 7]) (.cond (.t 7) .skip (.exit 0))) (.block 1 (.seq (.reg r_w_markText_5 [0, 3]) (.reg r_w_markText_6 [0, 3]))))
def r_w_markText_8 : List CO := [⟨none, (some 18), (.mv (.t 3))⟩, ⟨none, (some 19), (.bin .add .none (.k (.v (.string (bs [109])))) (.t 18))⟩, ⟨none, (some 2), (.mv (.t 19))⟩]
/-- loop.example/g00884/laws.markText -/
def c_w_markText : C := (.seq (.reg r_w_markText_0 [0]) (.seq (.seq (.reg r_w_markText_1 [0, 5]) (.cond (.t 5) (.seq (.reg r_w_markText_2 [2]) .ret) .skip)) (.seq (.reg r_w_markText_3 [0, 3]) (.seq (.block 0 (.loop l_w_markText_7)) (.seq (.reg r_w_markText_8 [2]) .ret)))))
def k_w_markText : Nat → List Nat
  | 0 => [0]
  | 1 => [0, 5]
  | 2 => [2]
  | 3 => [0, 3]
  | 4 => [0, 3, 7]
  | 5 => [0, 3]
  | 6 => [0, 3]
  | 7 => [2]
  | _ => []
theorem fn_w_markText : FnC Tryz.prog n_w_markText c_w_markText [(.tmp 2)] 20 :=
  ⟨Tryz.f59, _, k_w_markText, Tryz.func59, rfl, by kernel_rfl, by kernel_rfl, by kernel_rfl, rfl⟩
def r_w_eqStringS_0 : List CO := [⟨none, (some 4), (.mv (.k (.v (.bool false))))⟩]
def r_w_eqStringS_1 : List CO := [⟨none, (some 6), (.mv (.t 0))⟩, ⟨none, (some 7), (.len false (.t 6))⟩, ⟨none, (some 8), (.mv (.t 1))⟩, ⟨none, (some 9), (.len false (.t 8))⟩, ⟨none, (some 10), (.bin .neq .none (.t 7) (.t 9))⟩]
def r_w_eqStringS_2 : List CO := [⟨none, (some 4), (.mv (.k (.v (.bool false))))⟩]
def r_w_eqStringS_3 : List CO := [⟨none, (some 5), (.mv (.k (.v (.int .i64 (0)))))⟩]
def r_w_eqStringS_4 : List CO := [⟨none, (some 11), (.mv (.t 5))⟩, ⟨none, (some 12), (.mv (.t 0))⟩, ⟨none, (some 13), (.len false (.t 12))⟩, ⟨none, (some 14), (.bin .lss .none (.t 11) (.t 13))⟩]
def r_w_eqStringS_5 : List CO := [⟨none, (some 17), (.mv (.t 0))⟩, ⟨none, (some 18), (.mv (.t 5))⟩, ⟨none, (some 19), (.iaddr 1 (.t 17) (.t 18))⟩, ⟨none, (some 20), (.ld false 1 (.t 19))⟩, ⟨none, (some 21), (.mv (.t 1))⟩, ⟨none, (some 22), (.mv (.t 5))⟩, ⟨none, (some 23), (.iaddr 1 (.t 21) (.t 22))⟩, ⟨none, (some 24), (.ld false 1 (.t 23))⟩, ⟨none, (some 25), (.bin .neq .none (.t 20) (.t 24))⟩]
def p_w_eqStringS_5 : List (List Nat) := [[], [], [0, 1], [0, 1, 2], [], [], [4, 5], [4, 5, 6], [0, 1, 2, 3, 4, 5, 6, 7]]
def r_w_eqStringS_6 : List CO := [⟨none, (some 4), (.mv (.k (.v (.bool false))))⟩]
def r_w_eqStringS_7 : List CO := [⟨none, (some 15), (.mv (.t 5))⟩, ⟨none, (some 16), (.bin .add .none (.t 15) (.k (.v (.int .i64 (1)))))⟩, ⟨none, (some 5), (.mv (.t 16))⟩]
def l_w_eqStringS_8 : C := (.seq (.seq (.reg r_w_eqStringS_4 [0, 1, 5, 14]) (.cond (.t 14) .skip (.exit 0))) (.seq (.block 1 (.seq (.regD r_w_eqStringS_5 p_w_eqStringS_5 [0, 1, 5, 25]) (.cond (.t 25) (.seq (.reg r_w_eqStringS_6 [4]) .ret) .skip))) (.reg r_w_eqStringS_7 [0, 1, 5])))
def r_w_eqStringS_9 : List CO := [⟨none, (some 4), (.mv (.k (.v (.bool true))))⟩]
/-- loop.example/g00884/laws.eqStringS -/
def c_w_eqStringS : C := (.seq (.reg r_w_eqStringS_0 [0, 1]) (.seq (.seq (.reg r_w_eqStringS_1 [0, 1, 10]) (.cond (.t 10) (.seq (.reg r_w_eqStringS_2 [4]) .ret) .skip)) (.seq (.seq (.reg r_w_eqStringS_3 [0, 1, 5]) (.block 0 (.loop l_w_eqStringS_8))) (.seq (.reg r_w_eqStringS_9 [4]) .ret))))
def k_w_eqStringS : Nat → List Nat
  | 0 => [0, 1]
  | 1 => [0, 1, 10]
  | 2 => [4]
  | 3 => [0, 1, 5]
  | 4 => [0, 1, 5, 14]
  | 6 => [0, 1, 5, 25]
  | 7 => [4]
  | 5 => [0, 1, 5]
  | 8 => [4]
  | _ => []
theorem fn_w_eqStringS : FnC Tryz.prog n_w_eqStringS c_w_eqStringS [(.tmp 4)] 26 :=
  ⟨Tryz.f16, _, k_w_eqStringS, Tryz.func16, rfl, by kernel_rfl, by kernel_rfl, by kernel_rfl, rfl⟩
def r_w_markStringS_0 : List CO := [⟨none, (some 4), (.mv (.k (.v (.int .i64 (0)))))⟩]
def r_w_markStringS_1 : List CO := [⟨none, (some 5), (.mv (.k (.v (.int .i64 (0)))))⟩]
def r_w_markStringS_2 : List CO := [⟨none, (some 6), (.mv (.t 5))⟩, ⟨none, (some 7), (.mv (.t 0))⟩, ⟨none, (some 8), (.len false (.t 7))⟩, ⟨none, (some 9), (.bin .lss .none (.t 6) (.t 8))⟩]
def r_w_markStringS_3 : List CO := [⟨none, (some 12), (.mv (.t 0))⟩, ⟨none, (some 13), (.mv (.t 5))⟩, ⟨none, (some 14), (.mv (.t 1))⟩, ⟨none, (some 15), (.call n_w_markText [(.t 14)])⟩, ⟨none, (some 16), (.iaddr 1 (.t 12) (.t 13))⟩, ⟨none, none, (.st 1 (.t 16) (.t 15))⟩]
def r_w_markStringS_4 : List CO := [⟨none, (some 17), (.mv (.t 1))⟩, ⟨none, (some 18), (.bin .add .none (.t 17) (.k (.v (.int .i64 (1)))))⟩, ⟨none, (some 1), (.mv (.t 18))⟩]
def r_w_markStringS_5 : List CO := [⟨none, (some 10), (.mv (.t 5))⟩, ⟨none, (some 11), (.bin .add .none (.t 10) (.k (.v (.int .i64 (1)))))⟩, ⟨none, (some 5), (.mv (.t 11))⟩]
def l_w_markStringS_6 : C := (.seq (.seq (.reg r_w_markStringS_2 [0, 1, 5, 9]) (.cond (.t 9) .skip (.exit 0))) (.seq (.block 1 (.seq (.reg r_w_markStringS_3 [0, 1, 5]) (.reg r_w_markStringS_4 [0, 1, 5]))) (.reg r_w_markStringS_5 [0, 1, 5])))
def r_w_markStringS_7 : List CO := [⟨none, (some 19), (.mv (.t 1))⟩, ⟨none, (some 4), (.mv (.t 19))⟩]
/-- loop.example/g00884/laws.markStringS -/
def c_w_markStringS : C := (.seq (.reg r_w_markStringS_0 [0, 1]) (.seq (.seq (.reg r_w_markStringS_1 [0, 1, 5]) (.block 0 (.loop l_w_markStringS_6))) (.seq (.reg r_w_markStringS_7 [4]) .ret)))
def k_w_markStringS : Nat → List Nat
  | 0 => [0, 1]
  | 1 => [0, 1, 5]
  | 2 => [0, 1, 5, 9]
  | 4 => [0, 1, 5]
  | 5 => [0, 1, 5]
  | 3 => [0, 1, 5]
  | 6 => [4]
  | _ => []
theorem fn_w_markStringS : FnC Tryz.prog n_w_markStringS c_w_markStringS [(.tmp 4)] 20 :=
  ⟨Tryz.f17, _, k_w_markStringS, Tryz.func17, rfl, by kernel_rfl, by kernel_rfl, by kernel_rfl, rfl⟩
def r_w_heldStringS_0 : List CO := [⟨none, (some 4), (.mv (.k (.v (.int .i64 (0)))))⟩]
def r_w_heldStringS_1 : List CO := [⟨none, (some 5), (.mv (.k (.v (.int .i64 (0)))))⟩]
def r_w_heldStringS_2 : List CO := [⟨none, (some 6), (.mv (.t 5))⟩, ⟨none, (some 7), (.mv (.t 0))⟩, ⟨none, (some 8), (.len false (.t 7))⟩, ⟨none, (some 9), (.bin .lss .none (.t 6) (.t 8))⟩]
def r_w_heldStringS_3 : List CO := [⟨none, (some 12), (.mv (.t 0))⟩, ⟨none, (some 13), (.mv (.t 5))⟩, ⟨none, (some 14), (.iaddr 1 (.t 12) (.t 13))⟩, ⟨none, (some 15), (.ld false 1 (.t 14))⟩, ⟨none, (some 16), (.mv (.t 1))⟩, ⟨none, (some 17), (.call n_w_markText [(.t 16)])⟩, ⟨none, (some 18), (.bin .neq .none (.t 15) (.t 17))⟩]
def p_w_heldStringS_3 : List (List Nat) := [[], [], [0, 1], [0, 1, 2], [], [4], [0, 1, 2, 3, 4, 5]]
def r_w_heldStringS_4 : List CO := [⟨none, (some 4), (.mv (.k (.v (.int .i64 (-1)))))⟩]
def r_w_heldStringS_5 : List CO := [⟨none, (some 19), (.mv (.t 1))⟩, ⟨none, (some 20), (.bin .add .none (.t 19) (.k (.v (.int .i64 (1)))))⟩, ⟨none, (some 1), (.mv (.t 20))⟩]
def r_w_heldStringS_6 : List CO := [⟨none, (some 10), (.mv (.t 5))⟩, ⟨none, (some 11), (.bin .add .none (.t 10) (.k (.v (.int .i64 (1)))))⟩, ⟨none, (some 5), (.mv (.t 11))⟩]
def l_w_heldStringS_7 : C := (.seq (.seq (.reg r_w_heldStringS_2 [0, 1, 5, 9]) (.cond (.t 9) .skip (.exit 0))) (.seq (.block 1 (.seq (.seq (.regD r_w_heldStringS_3 p_w_heldStringS_3 [0, 1, 5, 18]) (.cond (.t 18) (.seq (.reg r_w_heldStringS_4 [4]) .ret) .skip)) (.reg r_w_heldStringS_5 [0, 1, 5]))) (.reg r_w_heldStringS_6 [0, 1, 5])))
def r_w_heldStringS_8 : List CO := [⟨none, (some 21), (.mv (.t 1))⟩, ⟨none, (some 4), (.mv (.t 21))⟩]
/-- loop.example/g00884/laws.heldStringS -/
def c_w_heldStringS : C := (.seq (.reg r_w_heldStringS_0 [0, 1]) (.seq (.seq (.reg r_w_heldStringS_1 [0, 1, 5]) (.block 0 (.loop l_w_heldStringS_7))) (.seq (.reg r_w_heldStringS_8 [4]) .ret)))
def k_w_heldStringS : Nat → List Nat
  | 0 => [0, 1]
  | 1 => [0, 1, 5]
  | 2 => [0, 1, 5, 9]
  | 4 => [0, 1, 5, 18]
  | 5 => [4]
  | 6 => [0, 1, 5]
  | 3 => [0, 1, 5]
  | 7 => [4]
  | _ => []
theorem fn_w_heldStringS : FnC Tryz.prog n_w_heldStringS c_w_heldStringS [(.tmp 4)] 22 :=
  ⟨Tryz.f18, _, k_w_heldStringS, Tryz.func18, rfl, by kernel_rfl, by kernel_rfl, by kernel_rfl, rfl⟩
end Go.Proofs.YtbeoijlggphklaaGreatDoor

/- Texts that are cut at a byte; numbers as texts. No program in sight. -/
set_option linter.unusedVariables false
set_option linter.unusedSimpArgs false
namespace Go.Proofs.YtbeoijlggphklaaGreatDoor
open Go.Abs

/-! ### Texts that are cut -/
def cut0 (c : UInt8) (s : List UInt8) : List UInt8 := s.takeWhile (· != c)
def cut1 (c : UInt8) (s : List UInt8) : List UInt8 := (s.dropWhile (· != c)).drop 1
theorem cut_none {c : UInt8} : ∀ {s : List UInt8}, c ∉ s → cut0 c s = s ∧ cut1 c s = []
  | [], _ => by simp [cut0, cut1]
  | x :: s, h => by
    rw [List.mem_cons, not_or] at h
    have hx : (x != c) = true := by simpa using fun e : x = c => h.1 e.symm
    obtain ⟨h1, h2⟩ := cut_none h.2
    have e0 : cut0 c (x :: s) = x :: cut0 c s := by simp [cut0, hx]
    have e1 : cut1 c (x :: s) = cut1 c s := by simp [cut1, hx]
    rw [e0, e1, h1]; exact ⟨rfl, h2⟩
theorem cut0_none {c : UInt8} {s : List UInt8} (h : c ∉ s) : cut0 c s = s := (cut_none h).1
theorem cut1_none {c : UInt8} {s : List UInt8} (h : c ∉ s) : cut1 c s = [] := (cut_none h).2
theorem cut0_at {c : UInt8} {a b : List UInt8} (h : c ∉ a) : cut0 c (a ++ c :: b) = a := by
  unfold cut0
  rw [List.takeWhile_append_of_pos]
  · simp
  · intro x hx
    simp only [bne_iff_ne, ne_eq]
    rintro rfl
    exact h hx
theorem cut1_at {c : UInt8} {a b : List UInt8} (h : c ∉ a) : cut1 c (a ++ c :: b) = b := by
  unfold cut1
  rw [List.dropWhile_append_of_pos]
  · simp
  · intro x hx
    simp only [bne_iff_ne, ne_eq]
    rintro rfl
    exact h hx
theorem cut_split {c : UInt8} : ∀ {s : List UInt8}, c ∈ s → s = cut0 c s ++ c :: cut1 c s ∧ c ∉ cut0 c s
  | [], h => by simp at h
  | x :: s, h => by
    by_cases e : x = c
    · subst e; simp [cut0, cut1]
    · have hs : c ∈ s := by
        rcases List.mem_cons.1 h with h | h
        · exact absurd h.symm e
        · exact h
      obtain ⟨h1, h2⟩ := cut_split hs
      have hx : (x != c) = true := by simpa using e
      have e0 : cut0 c (x :: s) = x :: cut0 c s := by simp [cut0, hx]
      have e1 : cut1 c (x :: s) = cut1 c s := by simp [cut1, hx]
      rw [e0, e1]
      refine ⟨by rw [List.cons_append, ← h1], ?_⟩
      rw [List.mem_cons, not_or]
      exact ⟨fun h => e h.symm, h2⟩
/-- A text between bytes. -/
def parts (c : UInt8) : List UInt8 → List (List UInt8)
  | [] => [[]]
  | x :: s => if x = c then [] :: parts c s else match parts c s with
    | p :: ps => (x :: p) :: ps
    | [] => [[x]]
theorem parts_none {c : UInt8} : ∀ {s : List UInt8}, c ∉ s → parts c s = [s]
  | [], _ => rfl
  | x :: s, h => by
    rw [List.mem_cons, not_or] at h
    rw [parts, if_neg (fun e => h.1 e.symm), parts_none h.2]
theorem parts_at {c : UInt8} : ∀ {a b : List UInt8}, c ∉ a → parts c (a ++ c :: b) = a :: parts c b
  | [], b, _ => by rw [List.nil_append, parts, if_pos rfl]
  | x :: a, b, h => by
    rw [List.mem_cons, not_or] at h
    rw [List.cons_append, parts, if_neg (fun e => h.1 e.symm), parts_at h.2]
theorem parts_ne {c : UInt8} (s : List UInt8) : parts c s ≠ [] := by
  by_cases h : c ∈ s
  · obtain ⟨h1, h2⟩ := cut_split h
    rw [h1, parts_at h2]; simp
  · rw [parts_none h]; simp
theorem parts_head {c : UInt8} (s : List UInt8) : (parts c s).headD [] = cut0 c s := by
  by_cases h : c ∈ s
  · obtain ⟨h1, h2⟩ := cut_split h
    conv => lhs; rw [h1, parts_at h2]
    simp
  · rw [parts_none h, cut0_none h]; rfl
theorem parts_len {c : UInt8} (s : List UInt8) : 2 ≤ (parts c s).length ↔ c ∈ s := by
  by_cases h : c ∈ s
  · obtain ⟨h1, h2⟩ := cut_split h
    rw [h1, parts_at h2]
    have := List.length_pos_iff.2 (parts_ne (c := c) (cut1 c s))
    simp only [List.length_cons]
    constructor
    · intro _; simp
    · intro _; omega
  · rw [parts_none h]; simp [h]

def digits (n : Nat) : List UInt8 := Lib.decDigits n
theorem digits_small {n : Nat} (h : n < 10) : digits n = [UInt8.ofNat (48 + n)] := by unfold digits; rw [Lib.decDigits, dif_pos h]
theorem digits_big {n : Nat} (h : ¬ n < 10) : digits n = digits (n / 10) ++ [UInt8.ofNat (48 + n % 10)] := by
  unfold digits
  conv => lhs; rw [Lib.decDigits, dif_neg h]
theorem digits_range : ∀ (n : Nat) (b : UInt8), b ∈ digits n → 48 ≤ b.toNat ∧ b.toNat ≤ 57 := by
  intro n
  induction n using Nat.strongRecOn with
  | _ n ih =>
    intro b hb
    by_cases h : n < 10
    · rw [digits_small h, List.mem_singleton] at hb
      subst hb
      rw [UInt8.toNat_ofNat']; omega
    · rw [digits_big h, List.mem_append, List.mem_singleton] at hb
      rcases hb with hb | rfl
      · exact ih (n / 10) (by omega) b hb
      · rw [UInt8.toNat_ofNat']; omega
theorem digits_len : ∀ (k n : Nat), n < 10 ^ (k + 1) → (digits n).length ≤ k + 1
  | 0, n, h => by rw [digits_small (by omega)]; simp
  | k + 1, n, h => by
    by_cases h' : n < 10
    · rw [digits_small h']; simp
    · rw [digits_big h', List.length_append, List.length_singleton]
      have := digits_len k (n / 10) (by rw [Nat.pow_succ] at h; omega)
      omega
theorem dig_slice {i : Nat} (h : i < 10) : (([48, 49, 50, 51, 52, 53, 54, 55, 56, 57] : List UInt8).drop i).take 1 = [UInt8.ofNat (48 + i)] := by
  have : ∀ j : Fin 10, (([48, 49, 50, 51, 52, 53, 54, 55, 56, 57] : List UInt8).drop j.1).take 1 = [UInt8.ofNat (48 + j.1)] := by decide
  exact this ⟨i, h⟩
theorem digits_le (n : Nat) : (digits n).length ≤ n + 1 := by
  induction n using Nat.strongRecOn with
  | _ n ih =>
    by_cases h : n < 10
    · rw [digits_small h]; simp
    · rw [digits_big h, List.length_append, List.length_singleton]
      have := ih (n / 10) (by omega)
      omega
end Go.Proofs.YtbeoijlggphklaaGreatDoor

/- The texts by which the laws mark memory. -/
set_option linter.unusedVariables false
set_option linter.unusedSimpArgs false
namespace Go.Proofs.YtbeoijlggphklaaGreatDoor
open Go.Abs

def markT (k : Nat) : List UInt8 := 109 :: digits k
theorem wrap8 {n : Int} (h1 : 0 ≤ n) (h2 : n ≤ 255) : IntKind.u8.wrap n = n := by
  simp [IntKind.wrap, IntKind.signed, IntKind.bits]; omega
theorem w_markText (k : Nat) (hk : k ≤ 100000000) : PCall Tryz.prog n_w_markText [I k] (S (markT k)) := by
  refine PCall.of fn_w_markText (by simp) ?_
  simp [c_w_markText, r_w_markText_0, r_w_markText_1]
  refine ⟨fun h => ?_, fun h => ?_⟩
  · have : k = 0 := by omega
    subst this
    simp [r_w_markText_2, markT, digits_small]
  · simp [r_w_markText_3, l_w_markText_7]
    refine loopK (fun p : Nat × List UInt8 => ⟨[(0, I p.1), (3, S p.2)], [], []⟩) (fun p => p.1) (fun p => p.1 ≤ k ∧ p.2.length ≤ 2 * (k - p.1) ∧ (0 < p.1 → digits k = digits p.1 ++ p.2) ∧ (p.1 = 0 → digits k = p.2)) (k, []) (Wk.list rfl (by simp) (by simp)) ⟨by simp, by simp, by simp, fun h' => by dsimp only at h'; omega⟩ ?_
    rintro ⟨j, suf⟩ ⟨hj, hl, h1, h2⟩ K hN hR hE
    dsimp only at hj hl h1 h2
    simp [r_w_markText_4]
    refine ⟨fun hlt => ?_, fun hge => ?_⟩
    · obtain ⟨m, hm, hmj⟩ : ∃ m, m < 10 ∧ j % 10 = m := ⟨j % 10, by omega, rfl⟩
      have e2 : (j : Int).tmod 10 = (m : Int) := by rw [Int.tmod_eq_emod_of_nonneg (by omega)]; omega
      have hd := h1 (by omega)
      simp [r_w_markText_5]
      rw [e2, wrap64 (by omega) (by omega), wrap8 (by omega) (by omega)]
      rw [show (48 + (m : Int)).toNat = 48 + m by omega]
      refine ⟨by omega, ?_⟩
      simp [r_w_markText_6]
      rw [wrap64 (by omega) (by omega)]
      refine hN (j / 10, UInt8.ofNat (48 + m) :: suf) _ (by dsimp only; omega) ⟨by dsimp only; omega, by simp only [List.length_cons]; omega, fun h' => ?_, fun h' => ?_⟩ (Wk.list rfl (by simp) (by simp))
      · dsimp only at h' ⊢
        rw [hd, digits_big (n := j) (by omega), hmj]; simp
      · dsimp only at h' ⊢
        rw [hd, digits_small (n := j) (by omega), ← hmj, show j % 10 = j by omega]; simp
    · refine hE _ _ ?_
      have : j = 0 := by omega
      subst this
      have := h2 rfl
      simp only [blockK_exit]
      simp [r_w_markText_8, markT, ← this]
      have := digits_le k
      omega

theorem markT_len (k : Nat) : (markT k).length ≤ k + 2 := by
  have := digits_le k
  simp [markT]; omega

theorem w_eqStringS (a b : List (List UInt8)) : PCall Tryz.prog n_w_eqStringS [.ro 1 (a.map S), .ro 1 (b.map S)] (B (decide (a = b))) := by
  refine PCall.ofL fn_w_eqStringS (by simp) fun hl => ?_
  simp at hl
  by_cases hl : a.length = b.length
  · simp [c_w_eqStringS, r_w_eqStringS_0, r_w_eqStringS_1, r_w_eqStringS_2, r_w_eqStringS_3, r_w_eqStringS_9, hl]
    refine loopK (fun i : Nat => ⟨[(0, .ro 1 (a.map S)), (1, .ro 1 (b.map S)), (5, I i)], [], []⟩) (fun i => a.length - i) (fun i => i ≤ a.length ∧ ∀ j, j < i → a[j]? = b[j]?) 0 (Wk.list rfl (by simp) (by simp)) ⟨by simp, by simp⟩ ?_
    rintro i ⟨hi, hj⟩ K hN hR hE
    simp [l_w_eqStringS_8, r_w_eqStringS_4]
    refine ⟨fun hlt => ?_, fun hge => ?_⟩
    · have hlb : i < b.length := by omega
      simp [r_w_eqStringS_5, p_w_eqStringS_5, hlt, hlb]
      refine ⟨⟨rfl, rfl⟩, fun hne => ?_, fun he => ?_⟩
      · simp [r_w_eqStringS_6]
        refine hR _ ?_
        simp
        rintro rfl
        exact hne rfl
      · simp [r_w_eqStringS_7]
        rw [wrap64 (by omega) (by omega)]
        refine hN (i + 1) _ (by omega) ⟨by omega, fun j hj' => ?_⟩ (Wk.list rfl (by simp) (by simp))
        by_cases e : j = i
        · subst e; simp [hlt, hlb, he]
        · exact hj j (by omega)
    · refine hE _ _ ?_
      have : a = b := by
        apply List.ext_getElem?
        intro j
        by_cases h : j < i
        · exact hj j h
        · rw [List.getElem?_eq_none (by omega), List.getElem?_eq_none (by omega)]
      simp only [blockK_exit]
      simp [r_w_eqStringS_9, this]
  · simp [c_w_eqStringS, r_w_eqStringS_0, r_w_eqStringS_1, r_w_eqStringS_2, hl]
    exact ⟨fun _ e => hl (by rw [e]), fun e => absurd e (by omega)⟩

def marksT (k n : Nat) : List (List UInt8) := (List.range n).map fun i => markT (k + i)
theorem marksT_len (k n : Nat) : (marksT k n).length = n := by simp [marksT]
theorem marksT_succ (k : Nat) (n : Nat) : marksT k (n + 1) = marksT k n ++ [markT (k + n)] := by simp only [marksT, List.range_succ, List.map_append, List.map_cons, List.map_nil]
theorem marksT_get {k m i : Nat} (h : i < (marksT k m).length) : (marksT k m)[i] = markT (k + i) := by simp [marksT]

theorem w_markStringS (l : List (List UInt8)) (k : Nat) (hl : l.length ≤ 1000000) (hk : k ≤ 1000000) :
    MCall Tryz.prog n_w_markStringS [⟨1, l.map S⟩] [.sl (mid 0) 0 l.length, I k] (I ((k + l.length : Nat) : Int)) [some ⟨1, (marksT k l.length).map S⟩] := by
  refine MCall.of fn_w_markStringS (by simp) rfl (by simp) ?_
  simp [c_w_markStringS, r_w_markStringS_0, r_w_markStringS_1, l_w_markStringS_6]
  refine loopK (fun i : Nat => ⟨[(0, .sl 1000000 0 l.length), (1, I ((k + i : Nat) : Int)), (5, I i)], [(1000000, ⟨1, (marksT k i ++ l.drop i).map S⟩)], [1000000]⟩) (fun i => l.length - i)
    (fun i => i ≤ l.length) 0 (Wk.list rfl (by simp) (by simp [marksT])) (by simp) ?_
  intro i hi K hN hR hE
  simp [r_w_markStringS_2]
  have hml : (List.map S (marksT k i)).length = i := by rw [List.length_map, marksT_len]
  refine ⟨fun hlt => ?_, fun hge => ?_⟩
  · have hd : (l.map S).drop i = S l[i] :: (l.map S).drop (i + 1) := by rw [drop_cons (l := l.map S) (by simpa using hlt)]; simp
    simp only [hd]
    simp [r_w_markStringS_3]
    refine callQ_v (PCall.arg (w_markText (k + i) (by omega)) (by simp)) ?_
    simp [hlt, app_get hml, app_set hml]
    simp [r_w_markStringS_4]
    rw [wrap64 (by omega) (by omega)]
    simp [r_w_markStringS_5]
    rw [wrap64 (by omega) (by omega)]
    refine hN (i + 1) _ (by omega) (by omega) (Wk.list rfl ?_ ?_)
    · simp; omega
    · simp [marksT_succ, app_set hml]
  · refine hE _ _ ?_
    obtain rfl : i = l.length := by omega
    simp [r_w_markStringS_7, marksT_len]

theorem w_heldStringS_marks (k m : Nat) (hm : m ≤ 1000000) (hk : k ≤ 1000000) : PCall Tryz.prog n_w_heldStringS [.ro 1 ((marksT k m).map S), I k] (I ((k + m : Nat) : Int)) := by
  refine PCall.of fn_w_heldStringS (by simp) ?_
  simp [c_w_heldStringS, r_w_heldStringS_0, r_w_heldStringS_1, l_w_heldStringS_7]
  refine loopK (fun i : Nat => ⟨[(0, .ro 1 ((marksT k m).map S)), (1, I ((k + i : Nat) : Int)), (5, I i)], [], []⟩) (fun i => m - i) (fun i => i ≤ m) 0 (Wk.list rfl (by simp) (by simp)) (by simp) ?_
  intro i hi K hN hR hE
  simp [r_w_heldStringS_2, marksT_len]
  refine ⟨fun hlt => ?_, fun hge => ?_⟩
  · have hg : i < (marksT k m).length := by rw [marksT_len]; exact hlt
    have hx := marksT_get hg
    simp [r_w_heldStringS_3, p_w_heldStringS_3, hlt, hg, hx]
    refine callD_v (PCall.arg (w_markText (k + i) (by omega)) (by simp)) ?_ ?_ ?_
    · simp
    · simp
    simp
    refine ⟨oEnd_of (by first | kernel_rfl | simp) (by first | kernel_rfl | simp), ?_⟩
    simp [r_w_heldStringS_5]
    rw [wrap64 (by omega) (by omega)]
    simp [r_w_heldStringS_6]
    rw [wrap64 (by omega) (by omega)]
    refine hN (i + 1) _ (by omega) (by omega) (Wk.list rfl ?_ ?_)
    · simp; omega
    · simp
  · refine hE _ _ ?_
    obtain rfl : i = m := by omega
    simp [r_w_heldStringS_8]
end Go.Proofs.YtbeoijlggphklaaGreatDoor

/- Rows of grants: the laws' marks (written by wip/tools/grantgen.py). -/
set_option linter.unusedVariables false
set_option linter.unusedSimpArgs false
namespace Go.Proofs.YtbeoijlggphklaaGreatDoor
open Go.Abs

/-- The marks of one. -/
def mkGrant (k : Nat) : Grant := ⟨((k : Nat) : Int), markT (k + 1), ((k + 2 : Nat) : Int), ⟨⟨((k + 3 : Nat) : Int), ((k + 4 : Nat) : Int), ((k + 5 : Nat) : Int), ((k + 6 : Nat) : Int)⟩, ((k + 7 : Nat) : Int), ((k + 8 : Nat) : Int), ((k + 9 : Nat) : Int), ⟨((k + 10 : Nat) : Int), ((k + 11 : Nat) : Int), ((k + 12 : Nat) : Int), ((k + 13 : Nat) : Int)⟩, ⟨((k + 14 : Nat) : Int), ((k + 15 : Nat) : Int), ((k + 16 : Nat) : Int), ((k + 17 : Nat) : Int)⟩⟩⟩
def marksGrant (k : Nat) (n : Nat) : List Grant := (List.range n).map fun i : Nat => mkGrant (k + 18 * i)
theorem marksGrant_len (k n : Nat) : (marksGrant k n).length = n := by simp [marksGrant]
theorem marksGrant_succ (k : Nat) (n : Nat) : marksGrant k (n + 1) = marksGrant k n ++ [mkGrant (k + 18 * n)] := by simp only [marksGrant, List.range_succ, List.map_append, List.map_cons, List.map_nil]
theorem marksGrant_get {k m i : Nat} (h : i < (marksGrant k m).length) : (marksGrant k m)[i] = mkGrant (k + 18 * i) := by simp [marksGrant]

set_option maxHeartbeats 4000000 in
theorem w_markGrantS (l : List Grant) (k : Nat) (hl : l.length ≤ 1048576) (hk : k ≤ 1000000) :
    MCall Tryz.prog n_w_markGrantS [⟨18, l.map eGrant⟩] [.sl (mid 0) 0 l.length, I k] (I ((k + 18 * l.length : Nat) : Int)) [some ⟨18, (marksGrant k l.length).map eGrant⟩] := by
  refine MCall.of fn_w_markGrantS (by simp) rfl (by simp) ?_
  simp [c_w_markGrantS, r_w_markGrantS_0, r_w_markGrantS_1, l_w_markGrantS_40]
  refine loopK (fun i : Nat => ⟨[(0, .sl 1000000 0 l.length), (1, I ((k + 18 * i : Nat) : Int)), (5, I i)], [(1000000, ⟨18, (marksGrant k i ++ l.drop i).map eGrant⟩)], [1000000]⟩) (fun i => l.length - i)
    (fun i => i ≤ l.length) 0 (Wk.list rfl (by simp) (by simp [marksGrant])) (by simp) ?_
  intro i hi K hN hR hE
  simp [r_w_markGrantS_2]
  have hml : (List.map eGrant (marksGrant k i)).length = i := by rw [List.length_map, marksGrant_len]
  refine ⟨fun hlt => ?_, fun hge => ?_⟩
  · have hd : (l.map eGrant).drop i = eGrant l[i] :: (l.map eGrant).drop (i + 1) := by rw [drop_cons (l := l.map eGrant) (by simpa using hlt)]; simp
    simp only [hd]
    simp [r_w_markGrantS_3, r_w_markGrantS_4, hlt, app_get hml, app_set hml]
    rw [wrap64 (by omega) (by omega)]
    simp [r_w_markGrantS_5]
    refine callQ_v (PCall.arg (w_markText (k + 18 * i + 1) (by omega)) (by simp)) ?_
    simp [r_w_markGrantS_6, hlt, app_get hml, app_set hml]
    rw [wrap64 (by omega) (by omega)]
    simp [r_w_markGrantS_7, r_w_markGrantS_8, hlt, app_get hml, app_set hml]
    rw [wrap64 (by omega) (by omega)]
    simp [r_w_markGrantS_9, r_w_markGrantS_10, hlt, app_get hml, app_set hml]
    rw [wrap64 (by omega) (by omega)]
    simp [r_w_markGrantS_11, r_w_markGrantS_12, hlt, app_get hml, app_set hml]
    rw [wrap64 (by omega) (by omega)]
    simp [r_w_markGrantS_13, r_w_markGrantS_14, hlt, app_get hml, app_set hml]
    rw [wrap64 (by omega) (by omega)]
    simp [r_w_markGrantS_15, r_w_markGrantS_16, hlt, app_get hml, app_set hml]
    rw [wrap64 (by omega) (by omega)]
    simp [r_w_markGrantS_17, r_w_markGrantS_18, hlt, app_get hml, app_set hml]
    rw [wrap64 (by omega) (by omega)]
    simp [r_w_markGrantS_19, r_w_markGrantS_20, hlt, app_get hml, app_set hml]
    rw [wrap64 (by omega) (by omega)]
    simp [r_w_markGrantS_21, r_w_markGrantS_22, hlt, app_get hml, app_set hml]
    rw [wrap64 (by omega) (by omega)]
    simp [r_w_markGrantS_23, r_w_markGrantS_24, hlt, app_get hml, app_set hml]
    rw [wrap64 (by omega) (by omega)]
    simp [r_w_markGrantS_25, r_w_markGrantS_26, hlt, app_get hml, app_set hml]
    rw [wrap64 (by omega) (by omega)]
    simp [r_w_markGrantS_27, r_w_markGrantS_28, hlt, app_get hml, app_set hml]
    rw [wrap64 (by omega) (by omega)]
    simp [r_w_markGrantS_29, r_w_markGrantS_30, hlt, app_get hml, app_set hml]
    rw [wrap64 (by omega) (by omega)]
    simp [r_w_markGrantS_31, r_w_markGrantS_32, hlt, app_get hml, app_set hml]
    rw [wrap64 (by omega) (by omega)]
    simp [r_w_markGrantS_33, r_w_markGrantS_34, hlt, app_get hml, app_set hml]
    rw [wrap64 (by omega) (by omega)]
    simp [r_w_markGrantS_35, r_w_markGrantS_36, hlt, app_get hml, app_set hml]
    rw [wrap64 (by omega) (by omega)]
    simp [r_w_markGrantS_37, r_w_markGrantS_38, hlt, app_get hml, app_set hml]
    rw [wrap64 (by omega) (by omega)]
    simp [r_w_markGrantS_39]
    rw [wrap64 (by omega) (by omega)]
    refine hN (i + 1) _ (by omega) (by omega) (Wk.list rfl ?_ ?_)
    · simp; omega
    · simp [marksGrant_succ, mkGrant, app_set hml]
      omega
  · refine hE _ _ ?_
    obtain rfl : i = l.length := by omega
    simp [r_w_markGrantS_41, marksGrant_len]

end Go.Proofs.YtbeoijlggphklaaGreatDoor

/- The compact code of the functions, and that it is theirs: written by a program of this claim. -/
namespace Go.Proofs.YtbeoijlggphklaaGreatDoor
open Go.Abs
set_option maxRecDepth 100000
def r_w_eqLog_0 : List CO := [⟨none, (some 2), (.box 3 (.t 0))⟩, ⟨none, (some 3), (.box 3 (.t 1))⟩, ⟨none, (some 4), (.mv (.k (.v (.bool false))))⟩]
def r_w_eqLog_1 : List CO := [⟨none, (some 5), (.faddr 0 (.t 2))⟩, ⟨none, (some 6), (.ld false 1 (.t 5))⟩, ⟨none, (some 7), (.faddr 0 (.t 3))⟩, ⟨none, (some 8), (.ld false 1 (.t 7))⟩, ⟨none, (some 9), (.bin .neq .none (.t 6) (.t 8))⟩]
def r_w_eqLog_2 : List CO := [⟨none, (some 4), (.mv (.k (.v (.bool false))))⟩]
def r_w_eqLog_3 : List CO := [⟨none, (some 10), (.faddr 1 (.t 2))⟩, ⟨none, (some 11), (.ld false 1 (.t 10))⟩, ⟨none, (some 12), (.faddr 1 (.t 3))⟩, ⟨none, (some 13), (.ld false 1 (.t 12))⟩, ⟨none, (some 14), (.bin .neq .none (.t 11) (.t 13))⟩]
def r_w_eqLog_4 : List CO := [⟨none, (some 4), (.mv (.k (.v (.bool false))))⟩]
def r_w_eqLog_5 : List CO := [⟨none, (some 15), (.faddr 2 (.t 2))⟩, ⟨none, (some 16), (.ld false 1 (.t 15))⟩, ⟨none, (some 17), (.faddr 2 (.t 3))⟩, ⟨none, (some 18), (.ld false 1 (.t 17))⟩, ⟨none, (some 19), (.bin .neq .none (.t 16) (.t 18))⟩]
def r_w_eqLog_6 : List CO := [⟨none, (some 4), (.mv (.k (.v (.bool false))))⟩]
def r_w_eqLog_7 : List CO := [⟨none, (some 4), (.mv (.k (.v (.bool true))))⟩]
/-- loop.example/g00884/laws.eqLog -/
def c_w_eqLog : C := (.seq (.reg r_w_eqLog_0 [2, 3]) (.seq (.seq (.reg r_w_eqLog_1 [2, 3, 9]) (.cond (.t 9) (.seq (.reg r_w_eqLog_2 [4]) .ret) .skip)) (.seq (.seq (.reg r_w_eqLog_3 [2, 3, 14]) (.cond (.t 14) (.seq (.reg r_w_eqLog_4 [4]) .ret) .skip)) (.seq (.seq (.reg r_w_eqLog_5 [19]) (.cond (.t 19) (.seq (.reg r_w_eqLog_6 [4]) .ret) .skip)) (.seq (.reg r_w_eqLog_7 [4]) .ret)))))
def k_w_eqLog : Nat → List Nat
  | 0 => [2, 3]
  | 1 => [2, 3, 9]
  | 2 => [4]
  | 3 => [2, 3, 14]
  | 4 => [4]
  | 5 => [19]
  | 6 => [4]
  | 7 => [4]
  | _ => []
theorem fn_w_eqLog : FnC Tryz.prog n_w_eqLog c_w_eqLog [(.tmp 4)] 20 :=
  ⟨Tryz.f68, _, k_w_eqLog, Tryz.func68, rfl, by kernel_rfl, by kernel_rfl, by kernel_rfl, rfl⟩
end Go.Proofs.YtbeoijlggphklaaGreatDoor

/- What a log is. No program in sight. -/
set_option linter.unusedVariables false
set_option linter.unusedSimpArgs false
namespace Go.Proofs.YtbeoijlggphklaaGreatDoor

structure Log where
  durable : List UInt8
  pending : List UInt8
  count : Int
  deriving DecidableEq
end Go.Proofs.YtbeoijlggphklaaGreatDoor

/- Two equal logs. -/
set_option linter.unusedVariables false
set_option linter.unusedSimpArgs false
namespace Go.Proofs.YtbeoijlggphklaaGreatDoor
open Go.Abs

theorem w_eqLog (p : Log) : PCall Tryz.prog n_w_eqLog [.agg [S p.durable, S p.pending, I p.count], .agg [S p.durable, S p.pending, I p.count]] (B true) := by
  refine PCall.of fn_w_eqLog (by simp) ?_
  simp [c_w_eqLog, r_w_eqLog_0, r_w_eqLog_1, r_w_eqLog_3, r_w_eqLog_5, r_w_eqLog_7]
end Go.Proofs.YtbeoijlggphklaaGreatDoor

/- Consoles: how they lie, the laws' helpers. -/
set_option linter.unusedVariables false
set_option linter.unusedSimpArgs false
namespace Go.Proofs.YtbeoijlggphklaaGreatDoor
open Go.Abs

structure Console where
  grants : List Grant
  log : Log
  deriving DecidableEq
abbrev eConsole (c : Console) : V := .agg [.ro 18 (c.grants.map eGrant), S c.log.durable, S c.log.pending, I c.log.count]
abbrev oConsole (c : Console) : V := .agg [.own 18 (c.grants.map eGrant), S c.log.durable, S c.log.pending, I c.log.count]
theorem w_eqConsole (c : Console) : PCall Tryz.prog n_w_eqConsole [eConsole c, eConsole c] (B true) := by
  refine PCall.of fn_w_eqConsole (by simp) ?_
  simp [c_w_eqConsole, r_w_eqConsole_0, r_w_eqConsole_1]
  refine callQ_v (PCall.arg (w_eqRegister c.grants c.grants) (by simp)) ?_
  simp [r_w_eqConsole_3]
  refine callQ_v (PCall.arg (w_eqLog c.log) (by simp)) ?_
  simp [r_w_eqConsole_5]
theorem w_markRegister (l : Register) (k : Nat) (hl : l.length ≤ 1048576) (hk : k ≤ 1000000) :
    MCall Tryz.prog n_w_markRegister [⟨18, l.map eGrant⟩] [.agg [.sl (mid 0) 0 l.length], I k] (I ((k + 18 * l.length : Nat) : Int)) [some ⟨18, (marksGrant k l.length).map eGrant⟩] := by
  refine MCall.of fn_w_markRegister (by simp) rfl (by simp) ?_
  simp [c_w_markRegister, r_w_markRegister_0, r_w_markRegister_1]
  refine callQ_m [1000000] (MCall.arg (w_markGrantS l k hl hk) (by simp)) (by simp) (by simp) (by simp) (by simp) ?_
  simp [r_w_markRegister_2]
end Go.Proofs.YtbeoijlggphklaaGreatDoor

/- The compact code of the functions, and that it is theirs: written by a program of this claim. -/
namespace Go.Proofs.YtbeoijlggphklaaGreatDoor
open Go.Abs
set_option maxRecDepth 100000
def r_w_szLog_0 : List CO := [⟨none, (some 2), (.box 3 (.t 0))⟩, ⟨none, (some 4), (.mv (.k (.v (.int .i64 (0)))))⟩]
def r_w_szLog_1 : List CO := [⟨none, (some 5), (.mv (.t 1))⟩, ⟨none, (some 6), (.faddr 0 (.t 2))⟩, ⟨none, (some 7), (.ld false 1 (.t 6))⟩, ⟨none, (some 8), (.len true (.t 7))⟩, ⟨none, (some 9), (.bin .sub .none (.t 5) (.t 8))⟩, ⟨none, (some 1), (.mv (.t 9))⟩]
def r_w_szLog_2 : List CO := [⟨none, (some 10), (.mv (.t 1))⟩, ⟨none, (some 11), (.bin .lss .none (.t 10) (.k (.v (.int .i64 (0)))))⟩]
def r_w_szLog_3 : List CO := [⟨none, (some 4), (.mv (.k (.v (.int .i64 (-1)))))⟩]
def r_w_szLog_4 : List CO := [⟨none, (some 12), (.mv (.t 1))⟩, ⟨none, (some 13), (.faddr 1 (.t 2))⟩, ⟨none, (some 14), (.ld false 1 (.t 13))⟩, ⟨none, (some 15), (.len true (.t 14))⟩, ⟨none, (some 16), (.bin .sub .none (.t 12) (.t 15))⟩, ⟨none, (some 1), (.mv (.t 16))⟩]
def r_w_szLog_5 : List CO := [⟨none, (some 17), (.mv (.t 1))⟩, ⟨none, (some 18), (.bin .lss .none (.t 17) (.k (.v (.int .i64 (0)))))⟩]
def r_w_szLog_6 : List CO := [⟨none, (some 4), (.mv (.k (.v (.int .i64 (-1)))))⟩]
def r_w_szLog_7 : List CO := [⟨none, (some 19), (.mv (.t 1))⟩, ⟨none, (some 4), (.mv (.t 19))⟩]
/-- loop.example/g00884/laws.szLog -/
def c_w_szLog : C := (.seq (.reg r_w_szLog_0 [1, 2]) (.seq (.reg r_w_szLog_1 [1, 2]) (.seq (.seq (.reg r_w_szLog_2 [1, 2, 11]) (.cond (.t 11) (.seq (.reg r_w_szLog_3 [4]) .ret) .skip)) (.seq (.reg r_w_szLog_4 [1]) (.seq (.seq (.reg r_w_szLog_5 [1, 18]) (.cond (.t 18) (.seq (.reg r_w_szLog_6 [4]) .ret) .skip)) (.seq (.reg r_w_szLog_7 [4]) .ret))))))
def k_w_szLog : Nat → List Nat
  | 0 => [1, 2]
  | 1 => [1, 2]
  | 2 => [1, 2, 11]
  | 3 => [4]
  | 4 => [1]
  | 5 => [1, 18]
  | 6 => [4]
  | 7 => [4]
  | _ => []
theorem fn_w_szLog : FnC Tryz.prog n_w_szLog c_w_szLog [(.tmp 4)] 20 :=
  ⟨Tryz.f60, _, k_w_szLog, Tryz.func60, rfl, by kernel_rfl, by kernel_rfl, by kernel_rfl, rfl⟩
def r_w_toLog_0 : List CO := [⟨none, (some 1), (.box 3 (.t 0))⟩, ⟨none, (some 2), (.box 3 (.k (.agg [(.v (.string (bs []))), (.v (.string (bs []))), (.v (.int .i64 (0)))])))⟩]
def r_w_toLog_1 : List CO := [⟨none, (some 3), (.box 3 (.k (.agg [(.v (.string (bs []))), (.v (.string (bs []))), (.v (.int .i64 (0)))])))⟩]
def r_w_toLog_2 : List CO := [⟨none, (some 4), (.faddr 0 (.t 1))⟩, ⟨none, (some 5), (.ld false 1 (.t 4))⟩, ⟨none, (some 6), (.faddr 0 (.t 3))⟩, ⟨none, none, (.st 1 (.t 6) (.t 5))⟩]
def r_w_toLog_3 : List CO := [⟨none, (some 7), (.faddr 1 (.t 1))⟩, ⟨none, (some 8), (.ld false 1 (.t 7))⟩, ⟨none, (some 9), (.faddr 1 (.t 3))⟩, ⟨none, none, (.st 1 (.t 9) (.t 8))⟩]
def r_w_toLog_4 : List CO := [⟨none, (some 10), (.faddr 2 (.t 1))⟩, ⟨none, (some 11), (.ld false 1 (.t 10))⟩, ⟨none, (some 12), (.faddr 2 (.t 3))⟩, ⟨none, none, (.st 1 (.t 12) (.t 11))⟩]
def r_w_toLog_5 : List CO := [⟨none, (some 13), (.ld true 3 (.t 3))⟩, ⟨none, none, (.st 3 (.t 2) (.t 13))⟩]
/-- loop.example/g00884/laws.toLog -/
def c_w_toLog : C := (.seq (.reg r_w_toLog_0 [1, 2]) (.seq (.reg r_w_toLog_1 [1, 2, 3]) (.seq (.reg r_w_toLog_2 [1, 2, 3]) (.seq (.reg r_w_toLog_3 [1, 2, 3]) (.seq (.reg r_w_toLog_4 [2, 3]) (.seq (.reg r_w_toLog_5 [2]) .ret))))))
def k_w_toLog : Nat → List Nat
  | 0 => [1, 2]
  | 1 => [1, 2, 3]
  | 2 => [1, 2, 3]
  | 3 => [1, 2, 3]
  | 4 => [2, 3]
  | 5 => [2]
  | _ => []
theorem fn_w_toLog : FnC Tryz.prog n_w_toLog c_w_toLog [(.cell 2 true 3)] 14 :=
  ⟨Tryz.f64, _, k_w_toLog, Tryz.func64, rfl, by kernel_rfl, by kernel_rfl, by kernel_rfl, rfl⟩
end Go.Proofs.YtbeoijlggphklaaGreatDoor

/- The compact code of the functions, and that it is theirs: written by a program of this claim. -/
namespace Go.Proofs.YtbeoijlggphklaaGreatDoor
open Go.Abs
set_option maxRecDepth 100000
def r_s_l27Log_0 : List CO := [⟨none, (some 1), (.box 3 (.t 0))⟩, ⟨none, (some 2), (.mv (.k (.v (.bool false))))⟩]
def r_s_l27Log_1 : List CO := [⟨none, (some 7), (.faddr 0 (.t 1))⟩, ⟨none, (some 8), (.ld false 1 (.t 7))⟩, ⟨none, (some 9), (.len true (.t 8))⟩, ⟨none, (some 10), (.faddr 1 (.t 1))⟩, ⟨none, (some 11), (.ld false 1 (.t 10))⟩, ⟨none, (some 12), (.len true (.t 11))⟩, ⟨none, (some 13), (.bin .add .none (.t 9) (.t 12))⟩, ⟨none, (some 14), (.bin .gtr .none (.t 13) (.k (.v (.int .i64 (30000)))))⟩]
def r_s_l27Log_2 : List CO := [⟨none, (some 2), (.mv (.k (.v (.bool false))))⟩]
def r_s_l27Log_3 : List CO := [⟨none, (some 16), (.faddr 0 (.t 1))⟩, ⟨none, (some 17), (.ld false 1 (.t 16))⟩, ⟨none, (some 18), (.faddr 1 (.t 1))⟩, ⟨none, (some 19), (.ld false 1 (.t 18))⟩, ⟨none, (some 20), (.bin .add .none (.t 17) (.t 19))⟩, ⟨none, (some 21), (.call n_s_l27Open [(.t 20)])⟩, ⟨none, (some 15), (.mv (.t 21))⟩, ⟨none, (some 22), (.ext (.t 15) 0)⟩, ⟨none, (some 23), (.ext (.t 15) 1)⟩, ⟨none, (some 3), (.mv (.t 22))⟩, ⟨none, (some 4), (.mv (.t 23))⟩]
def r_s_l27Log_4 : List CO := [⟨none, (some 25), (.faddr 0 (.t 1))⟩, ⟨none, (some 26), (.ld false 1 (.t 25))⟩, ⟨none, (some 27), (.call n_s_l27Open [(.t 26)])⟩, ⟨none, (some 24), (.mv (.t 27))⟩, ⟨none, (some 28), (.ext (.t 24) 0)⟩, ⟨none, (some 29), (.ext (.t 24) 1)⟩, ⟨none, (some 5), (.mv (.t 28))⟩, ⟨none, (some 6), (.mv (.t 29))⟩]
def r_s_l27Log_5 : List CO := [⟨none, (some 30), (.mv (.t 4))⟩, ⟨none, (some 31), (.faddr 0 (.t 1))⟩, ⟨none, (some 32), (.ld false 1 (.t 31))⟩, ⟨none, (some 33), (.len true (.t 32))⟩, ⟨none, (some 34), (.faddr 1 (.t 1))⟩, ⟨none, (some 35), (.ld false 1 (.t 34))⟩, ⟨none, (some 36), (.len true (.t 35))⟩, ⟨none, (some 37), (.bin .add .none (.t 33) (.t 36))⟩, ⟨none, (some 38), (.bin .eql .none (.t 30) (.t 37))⟩, ⟨none, (some 39), (.mv (.t 38))⟩, ⟨(some (39, true)), (some 40), (.mv (.t 6))⟩, ⟨(some (39, true)), (some 41), (.faddr 0 (.t 1))⟩, ⟨(some (39, true)), (some 42), (.ld false 1 (.t 41))⟩, ⟨(some (39, true)), (some 43), (.len true (.t 42))⟩, ⟨(some (39, true)), (some 44), (.bin .eql .none (.t 40) (.t 43))⟩, ⟨none, (some 45), (.pick (.t 39) (.t 44) (.k (.v (.bool false))))⟩, ⟨none, (some 46), (.mv (.t 45))⟩, ⟨(some (46, true)), (some 47), (.mv (.t 3))⟩, ⟨(some (46, true)), (some 48), (.len false (.t 47))⟩, ⟨(some (46, true)), (some 49), (.faddr 2 (.t 1))⟩, ⟨(some (46, true)), (some 50), (.ld false 1 (.t 49))⟩, ⟨(some (46, true)), (some 51), (.bin .eql .none (.t 48) (.t 50))⟩, ⟨none, (some 52), (.pick (.t 46) (.t 51) (.k (.v (.bool false))))⟩, ⟨none, (some 2), (.mv (.t 52))⟩]
/-- loop.example/g00884/spec.l27Log -/
def c_s_l27Log : C := (.seq (.reg r_s_l27Log_0 [1]) (.seq (.seq (.reg r_s_l27Log_1 [1, 14]) (.cond (.t 14) (.seq (.reg r_s_l27Log_2 [2]) .ret) .skip)) (.seq (.reg r_s_l27Log_3 [1, 3, 4]) (.seq (.reg r_s_l27Log_4 [1, 3, 4, 6]) (.seq (.reg r_s_l27Log_5 [2]) .ret)))))
def k_s_l27Log : Nat → List Nat
  | 0 => [1]
  | 1 => [1, 14]
  | 2 => [2]
  | 3 => [1, 3, 4]
  | 4 => [1, 3, 4, 6]
  | 5 => [2]
  | _ => []
theorem fn_s_l27Log : FnC Tryz.prog n_s_l27Log c_s_l27Log [(.tmp 2)] 53 :=
  ⟨Tryz.f103, _, k_s_l27Log, Tryz.func103, rfl, by kernel_rfl, by kernel_rfl, by kernel_rfl, rfl⟩
def r_i_IsValidLog_0 : List CO := [⟨none, (some 1), (.box 3 (.t 0))⟩, ⟨none, (some 2), (.mv (.k (.v (.bool false))))⟩]
def r_i_IsValidLog_1 : List CO := [⟨none, (some 8), (.faddr 0 (.t 1))⟩, ⟨none, (some 9), (.ld false 1 (.t 8))⟩, ⟨none, (some 10), (.faddr 1 (.t 1))⟩, ⟨none, (some 11), (.ld false 1 (.t 10))⟩, ⟨none, (some 12), (.bin .add .none (.t 9) (.t 11))⟩, ⟨none, (some 3), (.mv (.t 12))⟩]
def r_i_IsValidLog_2 : List CO := [⟨none, (some 14), (.mv (.t 3))⟩, ⟨none, (some 15), (.call n_i_readRecords [(.t 14)])⟩, ⟨none, (some 13), (.mv (.t 15))⟩, ⟨none, (some 16), (.ext (.t 13) 0)⟩, ⟨none, (some 17), (.ext (.t 13) 1)⟩, ⟨none, (some 4), (.mv (.t 16))⟩, ⟨none, (some 5), (.mv (.t 17))⟩]
def r_i_IsValidLog_3 : List CO := [⟨none, (some 18), (.mv (.t 5))⟩, ⟨none, (some 19), (.mv (.t 4))⟩, ⟨none, (some 20), (.len false (.t 19))⟩, ⟨none, (some 21), (.iaddr 1 (.t 18) (.t 20))⟩, ⟨none, (some 22), (.ld false 1 (.t 21))⟩, ⟨none, (some 23), (.mv (.t 3))⟩, ⟨none, (some 24), (.len true (.t 23))⟩, ⟨none, (some 25), (.bin .neq .none (.t 22) (.t 24))⟩, ⟨none, (some 26), (.mv (.t 25))⟩, ⟨(some (26, false)), (some 27), (.mv (.t 4))⟩, ⟨(some (26, false)), (some 28), (.len false (.t 27))⟩, ⟨(some (26, false)), (some 29), (.faddr 2 (.t 1))⟩, ⟨(some (26, false)), (some 30), (.ld false 1 (.t 29))⟩, ⟨(some (26, false)), (some 31), (.bin .neq .none (.t 28) (.t 30))⟩, ⟨none, (some 32), (.pick (.t 26) (.k (.v (.bool true))) (.t 31))⟩]
def r_i_IsValidLog_4 : List CO := [⟨none, (some 2), (.mv (.k (.v (.bool false))))⟩]
def r_i_IsValidLog_5 : List CO := [⟨none, (some 33), (.mv (.t 5))⟩, ⟨none, (some 34), (.len false (.t 33))⟩, ⟨none, (some 35), (.mv (.k (.v (.int .i64 (0)))))⟩]
def r_i_IsValidLog_6 : List CO := [⟨none, (some 36), (.bin .lss .none (.t 35) (.t 34))⟩]
def r_i_IsValidLog_7 : List CO := [⟨none, (some 37), (.iaddr 1 (.t 33) (.t 35))⟩, ⟨none, (some 38), (.ld false 1 (.t 37))⟩, ⟨none, (some 7), (.mv (.t 38))⟩]
def r_i_IsValidLog_8 : List CO := [⟨none, (some 39), (.mv (.t 7))⟩, ⟨none, (some 40), (.faddr 0 (.t 1))⟩, ⟨none, (some 41), (.ld false 1 (.t 40))⟩, ⟨none, (some 42), (.len true (.t 41))⟩, ⟨none, (some 43), (.bin .eql .none (.t 39) (.t 42))⟩]
def r_i_IsValidLog_9 : List CO := [⟨none, (some 2), (.mv (.k (.v (.bool true))))⟩]
def r_i_IsValidLog_10 : List CO := [⟨none, (some 44), (.bin .add .none (.t 35) (.k (.v (.int .i64 (1)))))⟩, ⟨none, (some 35), (.mv (.t 44))⟩]
def l_i_IsValidLog_11 : C := (.seq (.reg r_i_IsValidLog_6 [1, 33, 34, 35, 36]) (.seq (.cond (.t 36) .skip (.exit 0)) (.seq (.block 1 (.seq (.reg r_i_IsValidLog_7 [1, 7, 33, 34, 35]) (.seq (.reg r_i_IsValidLog_8 [1, 33, 34, 35, 43]) (.cond (.t 43) (.seq (.reg r_i_IsValidLog_9 [2]) .ret) .skip)))) (.reg r_i_IsValidLog_10 [1, 33, 34, 35]))))
def r_i_IsValidLog_12 : List CO := [⟨none, (some 2), (.mv (.k (.v (.bool false))))⟩]
/-- loop.example/g00884/impl.IsValidLog -/
def c_i_IsValidLog : C := (.seq (.reg r_i_IsValidLog_0 [1]) (.seq (.reg r_i_IsValidLog_1 [1, 3]) (.seq (.reg r_i_IsValidLog_2 [1, 3, 4, 5]) (.seq (.seq (.reg r_i_IsValidLog_3 [1, 5, 32]) (.cond (.t 32) (.seq (.reg r_i_IsValidLog_4 [2]) .ret) .skip)) (.seq (.seq (.reg r_i_IsValidLog_5 [1, 33, 34, 35]) (.block 0 (.loop l_i_IsValidLog_11))) (.seq (.reg r_i_IsValidLog_12 [2]) .ret))))))
def k_i_IsValidLog : Nat → List Nat
  | 0 => [1]
  | 1 => [1, 3]
  | 2 => [1, 3, 4, 5]
  | 3 => [1, 5, 32]
  | 4 => [2]
  | 5 => [1, 33, 34, 35]
  | 6 => [1, 33, 34, 35, 36]
  | 7 => [1, 7, 33, 34, 35]
  | 8 => [1, 33, 34, 35, 43]
  | 9 => [2]
  | 10 => [1, 33, 34, 35]
  | 11 => [2]
  | _ => []
theorem fn_i_IsValidLog : FnC Tryz.prog n_i_IsValidLog c_i_IsValidLog [(.tmp 2)] 45 :=
  ⟨Tryz.f104, _, k_i_IsValidLog, Tryz.func104, rfl, by kernel_rfl, by kernel_rfl, by kernel_rfl, rfl⟩
end Go.Proofs.YtbeoijlggphklaaGreatDoor

/- The compact code of the functions, and that it is theirs: written by a program of this claim. -/
namespace Go.Proofs.YtbeoijlggphklaaGreatDoor
open Go.Abs
set_option maxRecDepth 100000
def r_s_l27Read_0 : List CO := [⟨none, (some 4), (.box 2 (.k (.agg [(.v (.string (bs []))), (.v (.string (bs [])))])))⟩, ⟨none, (some 5), (.mv (.k (.v (.bool false))))⟩]
def r_s_l27Read_1 : List CO := [⟨none, (some 11), (.mv (.t 1))⟩, ⟨none, (some 12), (.call n_s_l1Num [(.t 11)])⟩, ⟨none, (some 13), (.bin .add .none (.t 12) (.k (.v (.string (bs [32])))))⟩, ⟨none, (some 6), (.mv (.t 13))⟩]
def r_s_l27Read_2 : List CO := [⟨none, (some 14), (.mv (.t 0))⟩, ⟨none, (some 15), (.call n_s_l1Split [(.t 14), (.k (.v (.int .u8 (35))))])⟩, ⟨none, (some 16), (.iaddr 1 (.t 15) (.k (.v (.int .i64 (0)))))⟩, ⟨none, (some 17), (.ld false 1 (.t 16))⟩, ⟨none, (some 7), (.mv (.t 17))⟩]
def r_s_l27Read_3 : List CO := [⟨none, (some 18), (.mv (.t 7))⟩, ⟨none, (some 19), (.len true (.t 18))⟩, ⟨none, (some 20), (.mv (.t 6))⟩, ⟨none, (some 21), (.len true (.t 20))⟩, ⟨none, (some 22), (.bin .lss .none (.t 19) (.t 21))⟩, ⟨none, (some 23), (.mv (.t 22))⟩, ⟨(some (23, false)), (some 24), (.mv (.t 7))⟩, ⟨(some (23, false)), (some 25), (.mv (.t 6))⟩, ⟨(some (23, false)), (some 26), (.len true (.t 25))⟩, ⟨(some (23, false)), (some 27), (.slc none (.t 24) none (some (.t 26)))⟩, ⟨(some (23, false)), (some 28), (.mv (.t 6))⟩, ⟨(some (23, false)), (some 29), (.bin .neq .none (.t 27) (.t 28))⟩, ⟨none, (some 30), (.pick (.t 23) (.k (.v (.bool true))) (.t 29))⟩]
def r_s_l27Read_4 : List CO := [⟨none, (some 31), (.build (.agg [(.v (.string (bs []))), (.v (.string (bs [])))]) [])⟩, ⟨none, none, (.st 2 (.t 4) (.t 31))⟩, ⟨none, (some 5), (.mv (.k (.v (.bool false))))⟩]
def r_s_l27Read_5 : List CO := [⟨none, (some 32), (.mv (.t 7))⟩, ⟨none, (some 33), (.mv (.t 6))⟩, ⟨none, (some 34), (.len true (.t 33))⟩, ⟨none, (some 35), (.slc none (.t 32) (some (.t 34)) none)⟩, ⟨none, (some 8), (.mv (.t 35))⟩]
def r_s_l27Read_6 : List CO := [⟨none, (some 36), (.mv (.t 8))⟩, ⟨none, (some 37), (.call n_s_l1Split [(.t 36), (.k (.v (.int .u8 (64))))])⟩, ⟨none, (some 38), (.iaddr 1 (.t 37) (.k (.v (.int .i64 (0)))))⟩, ⟨none, (some 39), (.ld false 1 (.t 38))⟩, ⟨none, (some 9), (.mv (.t 39))⟩]
def r_s_l27Read_7 : List CO := [⟨none, (some 40), (.mv (.t 9))⟩, ⟨none, (some 41), (.len true (.t 40))⟩, ⟨none, (some 42), (.mv (.t 8))⟩, ⟨none, (some 43), (.len true (.t 42))⟩, ⟨none, (some 44), (.bin .eql .none (.t 41) (.t 43))⟩]
def r_s_l27Read_8 : List CO := [⟨none, (some 45), (.build (.agg [(.v (.string (bs []))), (.v (.string (bs [])))]) [])⟩, ⟨none, none, (.st 2 (.t 4) (.t 45))⟩, ⟨none, (some 5), (.mv (.k (.v (.bool false))))⟩]
def r_s_l27Read_9 : List CO := [⟨none, (some 46), (.mv (.t 9))⟩, ⟨none, (some 47), (.mv (.t 8))⟩, ⟨none, (some 48), (.mv (.t 9))⟩, ⟨none, (some 49), (.len true (.t 48))⟩, ⟨none, (some 50), (.bin .add .none (.t 49) (.k (.v (.int .i64 (1)))))⟩, ⟨none, (some 51), (.slc none (.t 47) (some (.t 50)) none)⟩, ⟨none, (some 52), (.build (.agg [(.v (.string (bs []))), (.v (.string (bs [])))]) [(0, (1, (.t 46))), (1, (1, (.t 51)))])⟩, ⟨none, (some 10), (.box 2 (.k (.agg [(.v (.string (bs []))), (.v (.string (bs [])))])))⟩, ⟨none, none, (.st 2 (.t 10) (.t 52))⟩]
def r_s_l27Read_10 : List CO := [⟨none, (some 53), (.ld true 2 (.t 10))⟩, ⟨none, (some 54), (.ld true 2 (.t 10))⟩, ⟨none, (some 55), (.call n_s_l27Good [(.t 54)])⟩, ⟨none, (some 56), (.mv (.t 55))⟩, ⟨(some (56, true)), (some 57), (.mv (.t 1))⟩, ⟨(some (56, true)), (some 58), (.ld true 2 (.t 10))⟩, ⟨(some (56, true)), (some 59), (.call n_s_l27Line [(.t 57), (.t 58)])⟩, ⟨(some (56, true)), (some 60), (.mv (.t 0))⟩, ⟨(some (56, true)), (some 61), (.bin .add .none (.t 60) (.k (.v (.string (bs [10])))))⟩, ⟨(some (56, true)), (some 62), (.bin .eql .none (.t 59) (.t 61))⟩, ⟨none, (some 63), (.pick (.t 56) (.t 62) (.k (.v (.bool false))))⟩, ⟨none, none, (.st 2 (.t 4) (.t 53))⟩, ⟨none, (some 5), (.mv (.t 63))⟩]
def p_s_l27Read_10 : List (List Nat) := [[], [], [1], [1, 2], [1, 2, 3], [1, 2, 3], [1, 2, 3, 4, 5], [1, 2, 3], [1, 2, 3, 7], [1, 2, 3, 4, 5, 6, 7, 8], [1, 2, 3, 4, 5, 6, 7, 8, 9], [0, 1, 2, 3, 4, 5, 6], [0, 1, 2, 3, 4, 5, 6, 7, 8, 9, 10, 11]]
/-- loop.example/g00884/spec.l27Read -/
def c_s_l27Read : C := (.seq (.reg r_s_l27Read_0 [0, 1, 4]) (.seq (.reg r_s_l27Read_1 [0, 1, 4, 6]) (.seq (.reg r_s_l27Read_2 [0, 1, 4, 6, 7]) (.seq (.seq (.reg r_s_l27Read_3 [0, 1, 4, 6, 7, 30]) (.cond (.t 30) (.seq (.reg r_s_l27Read_4 [4, 5]) .ret) .skip)) (.seq (.reg r_s_l27Read_5 [0, 1, 4, 8]) (.seq (.reg r_s_l27Read_6 [0, 1, 4, 8, 9]) (.seq (.seq (.reg r_s_l27Read_7 [0, 1, 4, 8, 9, 44]) (.cond (.t 44) (.seq (.reg r_s_l27Read_8 [4, 5]) .ret) .skip)) (.seq (.reg r_s_l27Read_9 [0, 1, 4, 10]) (.seq (.regD r_s_l27Read_10 p_s_l27Read_10 [4, 5]) .ret)))))))))
def k_s_l27Read : Nat → List Nat
  | 0 => [0, 1, 4]
  | 1 => [0, 1, 4, 6]
  | 2 => [0, 1, 4, 6, 7]
  | 3 => [0, 1, 4, 6, 7, 30]
  | 4 => [4, 5]
  | 5 => [0, 1, 4, 8]
  | 6 => [0, 1, 4, 8, 9]
  | 7 => [0, 1, 4, 8, 9, 44]
  | 8 => [4, 5]
  | 9 => [0, 1, 4, 10]
  | 10 => [4, 5]
  | _ => []
theorem fn_s_l27Read : FnC Tryz.prog n_s_l27Read c_s_l27Read [(.cell 4 true 2), (.tmp 5)] 64 :=
  ⟨Tryz.f194, _, k_s_l27Read, Tryz.func194, rfl, by kernel_rfl, by kernel_rfl, by kernel_rfl, rfl⟩
def r_i_readRecord_0 : List CO := [⟨none, (some 4), (.box 2 (.k (.agg [(.v (.string (bs []))), (.v (.string (bs [])))])))⟩, ⟨none, (some 5), (.mv (.k (.v (.int .i64 (0)))))⟩, ⟨none, (some 6), (.mv (.k (.v (.bool false))))⟩]
def r_i_readRecord_1 : List CO := [⟨none, (some 21), (.mv (.t 0))⟩, ⟨none, (some 22), (.call n_strings_Cut [(.t 21), (.k (.v (.string (bs [10]))))])⟩, ⟨none, (some 20), (.mv (.t 22))⟩, ⟨none, (some 23), (.ext (.t 20) 0)⟩, ⟨none, (some 24), (.ext (.t 20) 1)⟩, ⟨none, (some 25), (.ext (.t 20) 2)⟩, ⟨none, (some 7), (.mv (.t 23))⟩, ⟨none, (some 8), (.mv (.t 24))⟩, ⟨none, (some 9), (.mv (.t 25))⟩]
def r_i_readRecord_2 : List CO := [⟨none, (some 27), (.mv (.t 7))⟩, ⟨none, (some 28), (.call n_strings_Cut [(.t 27), (.k (.v (.string (bs [35]))))])⟩, ⟨none, (some 26), (.mv (.t 28))⟩, ⟨none, (some 29), (.ext (.t 26) 0)⟩, ⟨none, (some 30), (.ext (.t 26) 1)⟩, ⟨none, (some 31), (.ext (.t 26) 2)⟩, ⟨none, (some 10), (.mv (.t 29))⟩, ⟨none, (some 11), (.mv (.t 30))⟩, ⟨none, (some 12), (.mv (.t 31))⟩]
def r_i_readRecord_3 : List CO := [⟨none, (some 33), (.mv (.t 10))⟩, ⟨none, (some 34), (.call n_strings_Cut [(.t 33), (.k (.v (.string (bs [32]))))])⟩, ⟨none, (some 32), (.mv (.t 34))⟩, ⟨none, (some 35), (.ext (.t 32) 0)⟩, ⟨none, (some 36), (.ext (.t 32) 1)⟩, ⟨none, (some 37), (.ext (.t 32) 2)⟩, ⟨none, (some 13), (.mv (.t 35))⟩, ⟨none, (some 14), (.mv (.t 36))⟩, ⟨none, (some 15), (.mv (.t 37))⟩]
def r_i_readRecord_4 : List CO := [⟨none, (some 39), (.mv (.t 14))⟩, ⟨none, (some 40), (.call n_strings_Cut [(.t 39), (.k (.v (.string (bs [64]))))])⟩, ⟨none, (some 38), (.mv (.t 40))⟩, ⟨none, (some 41), (.ext (.t 38) 0)⟩, ⟨none, (some 42), (.ext (.t 38) 1)⟩, ⟨none, (some 43), (.ext (.t 38) 2)⟩, ⟨none, (some 16), (.mv (.t 41))⟩, ⟨none, (some 17), (.mv (.t 42))⟩, ⟨none, (some 18), (.mv (.t 43))⟩]
def r_i_readRecord_5 : List CO := [⟨none, (some 44), (.mv (.t 16))⟩, ⟨none, (some 45), (.mv (.t 17))⟩, ⟨none, (some 46), (.build (.agg [(.v (.string (bs []))), (.v (.string (bs [])))]) [(0, (1, (.t 44))), (1, (1, (.t 45)))])⟩, ⟨none, (some 19), (.box 2 (.k (.agg [(.v (.string (bs []))), (.v (.string (bs [])))])))⟩, ⟨none, none, (.st 2 (.t 19) (.t 46))⟩]
def r_i_readRecord_6 : List CO := [⟨none, (some 47), (.mv (.t 9))⟩, ⟨none, (some 48), (.un .not (.t 47))⟩, ⟨none, (some 49), (.mv (.t 48))⟩, ⟨(some (49, false)), (some 50), (.mv (.t 1))⟩, ⟨(some (49, false)), (some 51), (.bin .geq .none (.t 50) (.k (.v (.int .i64 (60)))))⟩, ⟨none, (some 52), (.pick (.t 49) (.k (.v (.bool true))) (.t 51))⟩, ⟨none, (some 53), (.mv (.t 52))⟩, ⟨(some (53, false)), (some 54), (.ld true 2 (.t 19))⟩, ⟨(some (53, false)), (some 55), (.call n_i_IsValidRecord [(.t 54)])⟩, ⟨(some (53, false)), (some 56), (.un .not (.t 55))⟩, ⟨none, (some 57), (.pick (.t 53) (.k (.v (.bool true))) (.t 56))⟩, ⟨none, (some 58), (.mv (.t 57))⟩, ⟨(some (58, false)), (some 59), (.mv (.t 1))⟩, ⟨(some (58, false)), (some 60), (.ld true 2 (.t 19))⟩, ⟨(some (58, false)), (some 61), (.call n_i_encodeRecord [(.t 59), (.t 60)])⟩, ⟨(some (58, false)), (some 62), (.mv (.t 7))⟩, ⟨(some (58, false)), (some 63), (.bin .add .none (.t 62) (.k (.v (.string (bs [10])))))⟩, ⟨(some (58, false)), (some 64), (.bin .neq .none (.t 61) (.t 63))⟩, ⟨none, (some 65), (.pick (.t 58) (.k (.v (.bool true))) (.t 64))⟩]
def r_i_readRecord_7 : List CO := [⟨none, (some 66), (.build (.agg [(.v (.string (bs []))), (.v (.string (bs [])))]) [])⟩, ⟨none, none, (.st 2 (.t 4) (.t 66))⟩, ⟨none, (some 5), (.mv (.k (.v (.int .i64 (0)))))⟩, ⟨none, (some 6), (.mv (.k (.v (.bool false))))⟩]
def r_i_readRecord_8 : List CO := [⟨none, (some 67), (.ld true 2 (.t 19))⟩, ⟨none, (some 68), (.mv (.t 7))⟩, ⟨none, (some 69), (.len true (.t 68))⟩, ⟨none, (some 70), (.bin .add .none (.t 69) (.k (.v (.int .i64 (1)))))⟩, ⟨none, none, (.st 2 (.t 4) (.t 67))⟩, ⟨none, (some 5), (.mv (.t 70))⟩, ⟨none, (some 6), (.mv (.k (.v (.bool true))))⟩]
/-- loop.example/g00884/impl.readRecord -/
def c_i_readRecord : C := (.seq (.reg r_i_readRecord_0 [0, 1, 4]) (.seq (.reg r_i_readRecord_1 [1, 4, 7, 9]) (.seq (.reg r_i_readRecord_2 [1, 4, 7, 9, 10]) (.seq (.reg r_i_readRecord_3 [1, 4, 7, 9, 14]) (.seq (.reg r_i_readRecord_4 [1, 4, 7, 9, 16, 17]) (.seq (.reg r_i_readRecord_5 [1, 4, 7, 9, 19]) (.seq (.seq (.reg r_i_readRecord_6 [4, 7, 19, 65]) (.cond (.t 65) (.seq (.reg r_i_readRecord_7 [4, 5, 6]) .ret) .skip)) (.seq (.reg r_i_readRecord_8 [4, 5, 6]) .ret))))))))
def k_i_readRecord : Nat → List Nat
  | 0 => [0, 1, 4]
  | 1 => [1, 4, 7, 9]
  | 2 => [1, 4, 7, 9, 10]
  | 3 => [1, 4, 7, 9, 14]
  | 4 => [1, 4, 7, 9, 16, 17]
  | 5 => [1, 4, 7, 9, 19]
  | 6 => [4, 7, 19, 65]
  | 7 => [4, 5, 6]
  | 8 => [4, 5, 6]
  | _ => []
theorem fn_i_readRecord : FnC Tryz.prog n_i_readRecord c_i_readRecord [(.cell 4 true 2), (.tmp 5), (.tmp 6)] 71 :=
  ⟨Tryz.f195, _, k_i_readRecord, Tryz.func195, rfl, by kernel_rfl, by kernel_rfl, by kernel_rfl, rfl⟩
def r_i_readRecords_0 : List CO := [⟨none, (some 2), (.mv (.k (.v (.slice none 0 0))))⟩, ⟨none, (some 3), (.mv (.k (.v (.slice none 0 0))))⟩]
def r_i_readRecords_1 : List CO := [⟨none, (some 10), (.bslice 2 (.agg [(.v (.string (bs []))), (.v (.string (bs [])))]) 0 [])⟩, ⟨none, (some 11), (.bslice 1 (.v (.int .i64 (0))) 1 [(0, (.k (.v (.int .i64 (0)))))])⟩, ⟨none, (some 4), (.mv (.t 10))⟩, ⟨none, (some 5), (.mv (.t 11))⟩, ⟨none, (some 6), (.mv (.k (.v (.int .i64 (0)))))⟩]
def r_i_readRecords_2 : List CO := [⟨none, (some 13), (.mv (.t 0))⟩, ⟨none, (some 14), (.mv (.t 6))⟩, ⟨none, (some 15), (.slc none (.t 13) (some (.t 14)) none)⟩, ⟨none, (some 16), (.mv (.t 4))⟩, ⟨none, (some 17), (.len false (.t 16))⟩, ⟨none, (some 18), (.call n_i_readRecord [(.t 15), (.t 17)])⟩, ⟨none, (some 12), (.mv (.t 18))⟩, ⟨none, (some 19), (.ext (.t 12) 0)⟩, ⟨none, (some 20), (.ext (.t 12) 1)⟩, ⟨none, (some 21), (.ext (.t 12) 2)⟩, ⟨none, (some 7), (.box 2 (.k (.agg [(.v (.string (bs []))), (.v (.string (bs [])))])))⟩, ⟨none, none, (.st 2 (.t 7) (.t 19))⟩, ⟨none, (some 8), (.mv (.t 20))⟩, ⟨none, (some 9), (.mv (.t 21))⟩]
def r_i_readRecords_3 : List CO := [⟨none, (some 22), (.mv (.t 9))⟩, ⟨none, (some 23), (.un .not (.t 22))⟩]
def r_i_readRecords_4 : List CO := [⟨none, (some 24), (.mv (.t 4))⟩, ⟨none, (some 25), (.mv (.t 5))⟩, ⟨none, (some 2), (.mv (.t 24))⟩, ⟨none, (some 3), (.mv (.t 25))⟩]
def r_i_readRecords_5 : List CO := [⟨none, (some 26), (.mv (.t 6))⟩, ⟨none, (some 27), (.mv (.t 8))⟩, ⟨none, (some 28), (.bin .add .none (.t 26) (.t 27))⟩, ⟨none, (some 6), (.mv (.t 28))⟩]
def r_i_readRecords_6 : List CO := [⟨none, (some 29), (.mv (.t 4))⟩, ⟨none, (some 30), (.ld true 2 (.t 7))⟩, ⟨none, (some 31), (.bslice 2 (.agg [(.v (.string (bs []))), (.v (.string (bs [])))]) 1 [(0, (.t 30))])⟩, ⟨none, (some 32), (.app 2 32 (.t 29) (.t 31))⟩, ⟨none, (some 4), (.mv (.t 32))⟩]
def r_i_readRecords_7 : List CO := [⟨none, (some 33), (.mv (.t 5))⟩, ⟨none, (some 34), (.mv (.t 6))⟩, ⟨none, (some 35), (.bslice 1 (.v (.int .i64 (0))) 1 [(0, (.t 34))])⟩, ⟨none, (some 36), (.app 1 8 (.t 33) (.t 35))⟩, ⟨none, (some 5), (.mv (.t 36))⟩]
def l_i_readRecords_8 : C := (.block 1 (.seq (.reg r_i_readRecords_2 [0, 4, 5, 6, 7, 8, 9]) (.seq (.seq (.reg r_i_readRecords_3 [0, 4, 5, 6, 7, 8, 23]) (.cond (.t 23) (.seq (.reg r_i_readRecords_4 [2, 3]) .ret) .skip)) (.seq (.reg r_i_readRecords_5 [0, 4, 5, 6, 7]) (.seq (.reg r_i_readRecords_6 [0, 4, 5, 6]) (.reg r_i_readRecords_7 [0, 4, 5, 6]))))))
/-- loop.example/g00884/impl.readRecords -/
def c_i_readRecords : C := (.seq (.reg r_i_readRecords_0 [0]) (.seq (.reg r_i_readRecords_1 [0, 4, 5, 6]) (.block 0 (.loop l_i_readRecords_8))))
def k_i_readRecords : Nat → List Nat
  | 0 => [0]
  | 1 => [0, 4, 5, 6]
  | 2 => [0, 4, 5, 6, 7, 8, 9]
  | 3 => [0, 4, 5, 6, 7, 8, 23]
  | 4 => [2, 3]
  | 5 => [0, 4, 5, 6, 7]
  | 6 => [0, 4, 5, 6]
  | 7 => [0, 4, 5, 6]
  | _ => []
theorem fn_i_readRecords : FnC Tryz.prog n_i_readRecords c_i_readRecords [(.tmp 2), (.tmp 3)] 37 :=
  ⟨Tryz.f149, _, k_i_readRecords, Tryz.func149, rfl, by kernel_rfl, by kernel_rfl, by kernel_rfl, rfl⟩
def r_s_l27Open_0 : List CO := [⟨none, (some 2), (.mv (.k (.v (.slice none 0 0))))⟩, ⟨none, (some 3), (.mv (.k (.v (.int .i64 (0)))))⟩]
def r_s_l27Open_1 : List CO := [⟨none, (some 9), (.bslice 2 (.agg [(.v (.string (bs []))), (.v (.string (bs [])))]) 0 [])⟩, ⟨none, (some 4), (.mv (.t 9))⟩]
def r_s_l27Open_2 : List CO := [⟨none, (some 5), (.mv (.k (.v (.int .i64 (0)))))⟩]
def r_s_l27Open_3 : List CO := [⟨none, (some 10), (.mv (.t 5))⟩, ⟨none, (some 11), (.mv (.t 0))⟩, ⟨none, (some 12), (.len true (.t 11))⟩, ⟨none, (some 13), (.bin .lss .none (.t 10) (.t 12))⟩, ⟨none, (some 14), (.mv (.t 13))⟩, ⟨(some (14, true)), (some 15), (.mv (.t 4))⟩, ⟨(some (14, true)), (some 16), (.len false (.t 15))⟩, ⟨(some (14, true)), (some 17), (.bin .lss .none (.t 16) (.k (.v (.int .i64 (60)))))⟩, ⟨none, (some 18), (.pick (.t 14) (.t 17) (.k (.v (.bool false))))⟩]
def r_s_l27Open_4 : List CO := [⟨none, (some 19), (.mv (.t 0))⟩, ⟨none, (some 20), (.mv (.t 5))⟩, ⟨none, (some 21), (.slc none (.t 19) (some (.t 20)) none)⟩, ⟨none, (some 22), (.call n_s_l1Split [(.t 21), (.k (.v (.int .u8 (10))))])⟩, ⟨none, (some 6), (.mv (.t 22))⟩]
def r_s_l27Open_5 : List CO := [⟨none, (some 24), (.mv (.t 6))⟩, ⟨none, (some 25), (.iaddr 1 (.t 24) (.k (.v (.int .i64 (0)))))⟩, ⟨none, (some 26), (.ld false 1 (.t 25))⟩, ⟨none, (some 27), (.mv (.t 4))⟩, ⟨none, (some 28), (.len false (.t 27))⟩, ⟨none, (some 29), (.call n_s_l27Read [(.t 26), (.t 28)])⟩, ⟨none, (some 23), (.mv (.t 29))⟩, ⟨none, (some 30), (.ext (.t 23) 0)⟩, ⟨none, (some 31), (.ext (.t 23) 1)⟩, ⟨none, (some 7), (.box 2 (.k (.agg [(.v (.string (bs []))), (.v (.string (bs [])))])))⟩, ⟨none, none, (.st 2 (.t 7) (.t 30))⟩, ⟨none, (some 8), (.mv (.t 31))⟩]
def r_s_l27Open_6 : List CO := [⟨none, (some 32), (.mv (.t 6))⟩, ⟨none, (some 33), (.len false (.t 32))⟩, ⟨none, (some 34), (.bin .lss .none (.t 33) (.k (.v (.int .i64 (2)))))⟩, ⟨none, (some 35), (.mv (.t 34))⟩, ⟨(some (35, false)), (some 36), (.mv (.t 8))⟩, ⟨(some (35, false)), (some 37), (.un .not (.t 36))⟩, ⟨none, (some 38), (.pick (.t 35) (.k (.v (.bool true))) (.t 37))⟩]
def r_s_l27Open_7 : List CO := [⟨none, (some 39), (.mv (.t 4))⟩, ⟨none, (some 40), (.ld true 2 (.t 7))⟩, ⟨none, (some 41), (.bslice 2 (.agg [(.v (.string (bs []))), (.v (.string (bs [])))]) 1 [(0, (.t 40))])⟩, ⟨none, (some 42), (.app 2 32 (.t 39) (.t 41))⟩, ⟨none, (some 4), (.mv (.t 42))⟩]
def r_s_l27Open_8 : List CO := [⟨none, (some 43), (.mv (.t 5))⟩, ⟨none, (some 44), (.mv (.t 6))⟩, ⟨none, (some 45), (.iaddr 1 (.t 44) (.k (.v (.int .i64 (0)))))⟩, ⟨none, (some 46), (.ld false 1 (.t 45))⟩, ⟨none, (some 47), (.len true (.t 46))⟩, ⟨none, (some 48), (.bin .add .none (.t 43) (.t 47))⟩, ⟨none, (some 49), (.bin .add .none (.t 48) (.k (.v (.int .i64 (1)))))⟩, ⟨none, (some 5), (.mv (.t 49))⟩]
def l_s_l27Open_9 : C := (.seq (.seq (.reg r_s_l27Open_3 [0, 4, 5, 18]) (.cond (.t 18) .skip (.exit 0))) (.block 1 (.seq (.reg r_s_l27Open_4 [0, 4, 5, 6]) (.seq (.reg r_s_l27Open_5 [0, 4, 5, 6, 7, 8]) (.seq (.seq (.reg r_s_l27Open_6 [0, 4, 5, 6, 7, 38]) (.cond (.t 38) (.exit 0) .skip)) (.seq (.reg r_s_l27Open_7 [0, 4, 5, 6]) (.reg r_s_l27Open_8 [0, 4, 5])))))))
def r_s_l27Open_10 : List CO := [⟨none, (some 50), (.mv (.t 4))⟩, ⟨none, (some 51), (.mv (.t 5))⟩, ⟨none, (some 2), (.mv (.t 50))⟩, ⟨none, (some 3), (.mv (.t 51))⟩]
/-- loop.example/g00884/spec.l27Open -/
def c_s_l27Open : C := (.seq (.reg r_s_l27Open_0 [0]) (.seq (.reg r_s_l27Open_1 [0, 4]) (.seq (.reg r_s_l27Open_2 [0, 4, 5]) (.seq (.block 0 (.loop l_s_l27Open_9)) (.seq (.reg r_s_l27Open_10 [2, 3]) .ret)))))
def k_s_l27Open : Nat → List Nat
  | 0 => [0]
  | 1 => [0, 4]
  | 2 => [0, 4, 5]
  | 3 => [0, 4, 5, 18]
  | 4 => [0, 4, 5, 6]
  | 5 => [0, 4, 5, 6, 7, 8]
  | 6 => [0, 4, 5, 6, 7, 38]
  | 7 => [0, 4, 5, 6]
  | 8 => [0, 4, 5]
  | 9 => [2, 3]
  | _ => []
theorem fn_s_l27Open : FnC Tryz.prog n_s_l27Open c_s_l27Open [(.tmp 2), (.tmp 3)] 52 :=
  ⟨Tryz.f148, _, k_s_l27Open, Tryz.func148, rfl, by kernel_rfl, by kernel_rfl, by kernel_rfl, rfl⟩
end Go.Proofs.YtbeoijlggphklaaGreatDoor

/- The compact code of the functions, and that it is theirs: written by a program of this claim. -/
namespace Go.Proofs.YtbeoijlggphklaaGreatDoor
open Go.Abs
set_option maxRecDepth 100000
def r_internal_stringslite_Cut_0 : List CO := [⟨none, (some 4), (.mv (.k (.v (.string (bs [])))))⟩, ⟨none, (some 5), (.mv (.k (.v (.string (bs [])))))⟩, ⟨none, (some 6), (.mv (.k (.v (.bool false))))⟩]
def r_internal_stringslite_Cut_1 : List CO := [⟨none, (some 8), (.mv (.t 0))⟩, ⟨none, (some 9), (.mv (.t 1))⟩, ⟨none, (some 10), (.call n_internal_stringslite_Index [(.t 8), (.t 9)])⟩, ⟨none, (some 7), (.mv (.t 10))⟩]
def r_internal_stringslite_Cut_2 : List CO := [⟨none, (some 11), (.mv (.t 7))⟩, ⟨none, (some 12), (.bin .geq .none (.t 11) (.k (.v (.int .i64 (0)))))⟩]
def r_internal_stringslite_Cut_3 : List CO := [⟨none, (some 13), (.mv (.t 0))⟩, ⟨none, (some 14), (.mv (.t 7))⟩, ⟨none, (some 15), (.slc none (.t 13) none (some (.t 14)))⟩, ⟨none, (some 16), (.mv (.t 0))⟩, ⟨none, (some 17), (.mv (.t 7))⟩, ⟨none, (some 18), (.mv (.t 1))⟩, ⟨none, (some 19), (.len true (.t 18))⟩, ⟨none, (some 20), (.bin .add .none (.t 17) (.t 19))⟩, ⟨none, (some 21), (.slc none (.t 16) (some (.t 20)) none)⟩, ⟨none, (some 4), (.mv (.t 15))⟩, ⟨none, (some 5), (.mv (.t 21))⟩, ⟨none, (some 6), (.mv (.k (.v (.bool true))))⟩]
def p_internal_stringslite_Cut_3 : List (List Nat) := [[], [], [0, 1], [], [], [], [5], [4, 5, 6], [3, 4, 5, 6, 7], [0, 1, 2], [0, 1, 2, 3, 4, 5, 6, 7, 8, 9], [0, 1, 2, 3, 4, 5, 6, 7, 8, 9, 10]]
def r_internal_stringslite_Cut_4 : List CO := [⟨none, (some 22), (.mv (.t 0))⟩, ⟨none, (some 4), (.mv (.t 22))⟩, ⟨none, (some 5), (.mv (.k (.v (.string (bs [])))))⟩, ⟨none, (some 6), (.mv (.k (.v (.bool false))))⟩]
/-- internal/stringslite.Cut -/
def c_internal_stringslite_Cut : C := (.seq (.reg r_internal_stringslite_Cut_0 [0, 1]) (.seq (.seq (.reg r_internal_stringslite_Cut_1 [0, 1, 7]) (.seq (.reg r_internal_stringslite_Cut_2 [0, 1, 7, 12]) (.cond (.t 12) (.seq (.regD r_internal_stringslite_Cut_3 p_internal_stringslite_Cut_3 [4, 5, 6]) .ret) .skip))) (.seq (.reg r_internal_stringslite_Cut_4 [4, 5, 6]) .ret)))
def k_internal_stringslite_Cut : Nat → List Nat
  | 0 => [0, 1]
  | 1 => [0, 1, 7]
  | 2 => [0, 1, 7, 12]
  | 3 => [4, 5, 6]
  | 4 => [4, 5, 6]
  | _ => []
theorem fn_internal_stringslite_Cut : FnC Tryz.prog n_internal_stringslite_Cut c_internal_stringslite_Cut [(.tmp 4), (.tmp 5), (.tmp 6)] 23 :=
  ⟨Tryz.f252, _, k_internal_stringslite_Cut, Tryz.func252, rfl, by kernel_rfl, by kernel_rfl, by kernel_rfl, rfl⟩
def r_strings_Cut_0 : List CO := [⟨none, (some 4), (.mv (.k (.v (.string (bs [])))))⟩, ⟨none, (some 5), (.mv (.k (.v (.string (bs [])))))⟩, ⟨none, (some 6), (.mv (.k (.v (.bool false))))⟩]
def r_strings_Cut_1 : List CO := [⟨none, (some 7), (.mv (.t 0))⟩, ⟨none, (some 8), (.mv (.t 1))⟩, ⟨none, (some 9), (.call n_internal_stringslite_Cut [(.t 7), (.t 8)])⟩, ⟨none, (some 10), (.ext (.t 9) 0)⟩, ⟨none, (some 11), (.ext (.t 9) 1)⟩, ⟨none, (some 12), (.ext (.t 9) 2)⟩, ⟨none, (some 4), (.mv (.t 10))⟩, ⟨none, (some 5), (.mv (.t 11))⟩, ⟨none, (some 6), (.mv (.t 12))⟩]
/-- strings.Cut -/
def c_strings_Cut : C := (.seq (.reg r_strings_Cut_0 [0, 1]) (.seq (.reg r_strings_Cut_1 [4, 5, 6]) .ret))
def k_strings_Cut : Nat → List Nat
  | 0 => [0, 1]
  | 1 => [4, 5, 6]
  | _ => []
theorem fn_strings_Cut : FnC Tryz.prog n_strings_Cut c_strings_Cut [(.tmp 4), (.tmp 5), (.tmp 6)] 13 :=
  ⟨Tryz.f234, _, k_strings_Cut, Tryz.func234, rfl, by kernel_rfl, by kernel_rfl, by kernel_rfl, rfl⟩
end Go.Proofs.YtbeoijlggphklaaGreatDoor

/- The compact code of the functions, and that it is theirs: written by a program of this claim. -/
namespace Go.Proofs.YtbeoijlggphklaaGreatDoor
open Go.Abs
set_option maxRecDepth 100000
def r_i_checksum_0 : List CO := [⟨none, (some 2), (.mv (.k (.v (.int .i64 (0)))))⟩]
def r_i_checksum_1 : List CO := [⟨none, (some 3), (.mv (.k (.v (.int .i64 (7)))))⟩]
def r_i_checksum_2 : List CO := [⟨none, (some 4), (.mv (.k (.v (.int .i64 (0)))))⟩]
def r_i_checksum_3 : List CO := [⟨none, (some 5), (.mv (.t 4))⟩, ⟨none, (some 6), (.mv (.t 0))⟩, ⟨none, (some 7), (.len true (.t 6))⟩, ⟨none, (some 8), (.bin .lss .none (.t 5) (.t 7))⟩]
def r_i_checksum_4 : List CO := [⟨none, (some 11), (.mv (.t 3))⟩, ⟨none, (some 12), (.bin .mul .none (.k (.v (.int .i64 (41)))) (.t 11))⟩, ⟨none, (some 13), (.mv (.t 0))⟩, ⟨none, (some 14), (.mv (.t 4))⟩, ⟨none, (some 15), (.idx (.t 13) (.t 14))⟩, ⟨none, (some 16), (.conv (.int .i64) (.t 15))⟩, ⟨none, (some 17), (.bin .add .none (.t 12) (.t 16))⟩, ⟨none, (some 18), (.bin .add .none (.t 17) (.k (.v (.int .i64 (1)))))⟩, ⟨none, (some 19), (.bin .rem .none (.t 18) (.k (.v (.int .i64 (999979)))))⟩, ⟨none, (some 3), (.mv (.t 19))⟩]
def r_i_checksum_5 : List CO := [⟨none, (some 9), (.mv (.t 4))⟩, ⟨none, (some 10), (.bin .add .none (.t 9) (.k (.v (.int .i64 (1)))))⟩, ⟨none, (some 4), (.mv (.t 10))⟩]
def l_i_checksum_6 : C := (.seq (.seq (.reg r_i_checksum_3 [0, 3, 4, 8]) (.cond (.t 8) .skip (.exit 0))) (.seq (.block 1 (.reg r_i_checksum_4 [0, 3, 4])) (.reg r_i_checksum_5 [0, 3, 4])))
def r_i_checksum_7 : List CO := [⟨none, (some 20), (.mv (.t 3))⟩, ⟨none, (some 2), (.mv (.t 20))⟩]
/-- loop.example/g00884/impl.checksum -/
def c_i_checksum : C := (.seq (.reg r_i_checksum_0 [0]) (.seq (.reg r_i_checksum_1 [0, 3]) (.seq (.seq (.reg r_i_checksum_2 [0, 3, 4]) (.block 0 (.loop l_i_checksum_6))) (.seq (.reg r_i_checksum_7 [2]) .ret))))
def k_i_checksum : Nat → List Nat
  | 0 => [0]
  | 1 => [0, 3]
  | 2 => [0, 3, 4]
  | 3 => [0, 3, 4, 8]
  | 5 => [0, 3, 4]
  | 4 => [0, 3, 4]
  | 6 => [2]
  | _ => []
theorem fn_i_checksum : FnC Tryz.prog n_i_checksum c_i_checksum [(.tmp 2)] 21 :=
  ⟨Tryz.f265, _, k_i_checksum, Tryz.func265, rfl, by kernel_rfl, by kernel_rfl, by kernel_rfl, rfl⟩
def r_s_l1Sum_0 : List CO := [⟨none, (some 2), (.mv (.k (.v (.int .i64 (0)))))⟩]
def r_s_l1Sum_1 : List CO := [⟨none, (some 3), (.mv (.k (.v (.int .i64 (7)))))⟩]
def r_s_l1Sum_2 : List CO := [⟨none, (some 4), (.mv (.k (.v (.int .i64 (0)))))⟩]
def r_s_l1Sum_3 : List CO := [⟨none, (some 5), (.mv (.t 4))⟩, ⟨none, (some 6), (.mv (.t 0))⟩, ⟨none, (some 7), (.len true (.t 6))⟩, ⟨none, (some 8), (.bin .lss .none (.t 5) (.t 7))⟩]
def r_s_l1Sum_4 : List CO := [⟨none, (some 11), (.mv (.t 3))⟩, ⟨none, (some 12), (.bin .mul .none (.k (.v (.int .i64 (41)))) (.t 11))⟩, ⟨none, (some 13), (.mv (.t 0))⟩, ⟨none, (some 14), (.mv (.t 4))⟩, ⟨none, (some 15), (.idx (.t 13) (.t 14))⟩, ⟨none, (some 16), (.conv (.int .i64) (.t 15))⟩, ⟨none, (some 17), (.bin .add .none (.t 12) (.t 16))⟩, ⟨none, (some 18), (.bin .add .none (.t 17) (.k (.v (.int .i64 (1)))))⟩, ⟨none, (some 19), (.bin .rem .none (.t 18) (.k (.v (.int .i64 (999979)))))⟩, ⟨none, (some 3), (.mv (.t 19))⟩]
def r_s_l1Sum_5 : List CO := [⟨none, (some 9), (.mv (.t 4))⟩, ⟨none, (some 10), (.bin .add .none (.t 9) (.k (.v (.int .i64 (1)))))⟩, ⟨none, (some 4), (.mv (.t 10))⟩]
def l_s_l1Sum_6 : C := (.seq (.seq (.reg r_s_l1Sum_3 [0, 3, 4, 8]) (.cond (.t 8) .skip (.exit 0))) (.seq (.block 1 (.reg r_s_l1Sum_4 [0, 3, 4])) (.reg r_s_l1Sum_5 [0, 3, 4])))
def r_s_l1Sum_7 : List CO := [⟨none, (some 20), (.mv (.t 3))⟩, ⟨none, (some 2), (.mv (.t 20))⟩]
/-- loop.example/g00884/spec.l1Sum -/
def c_s_l1Sum : C := (.seq (.reg r_s_l1Sum_0 [0]) (.seq (.reg r_s_l1Sum_1 [0, 3]) (.seq (.seq (.reg r_s_l1Sum_2 [0, 3, 4]) (.block 0 (.loop l_s_l1Sum_6))) (.seq (.reg r_s_l1Sum_7 [2]) .ret))))
def k_s_l1Sum : Nat → List Nat
  | 0 => [0]
  | 1 => [0, 3]
  | 2 => [0, 3, 4]
  | 3 => [0, 3, 4, 8]
  | 5 => [0, 3, 4]
  | 4 => [0, 3, 4]
  | 6 => [2]
  | _ => []
theorem fn_s_l1Sum : FnC Tryz.prog n_s_l1Sum c_s_l1Sum [(.tmp 2)] 21 :=
  ⟨Tryz.f264, _, k_s_l1Sum, Tryz.func264, rfl, by kernel_rfl, by kernel_rfl, by kernel_rfl, rfl⟩
def r_s_l1Seal_0 : List CO := [⟨none, (some 2), (.mv (.k (.v (.string (bs [])))))⟩]
def r_s_l1Seal_1 : List CO := [⟨none, (some 3), (.mv (.t 0))⟩, ⟨none, (some 4), (.bin .add .none (.t 3) (.k (.v (.string (bs [35])))))⟩, ⟨none, (some 5), (.mv (.t 0))⟩, ⟨none, (some 6), (.call n_s_l1Sum [(.t 5)])⟩, ⟨none, (some 7), (.call n_s_l1Num [(.t 6)])⟩, ⟨none, (some 8), (.bin .add .none (.t 4) (.t 7))⟩, ⟨none, (some 2), (.mv (.t 8))⟩]
/-- loop.example/g00884/spec.l1Seal -/
def c_s_l1Seal : C := (.seq (.reg r_s_l1Seal_0 [0]) (.seq (.reg r_s_l1Seal_1 [2]) .ret))
def k_s_l1Seal : Nat → List Nat
  | 0 => [0]
  | 1 => [2]
  | _ => []
theorem fn_s_l1Seal : FnC Tryz.prog n_s_l1Seal c_s_l1Seal [(.tmp 2)] 9 :=
  ⟨Tryz.f251, _, k_s_l1Seal, Tryz.func251, rfl, by kernel_rfl, by kernel_rfl, by kernel_rfl, rfl⟩
def r_s_l27Line_0 : List CO := [⟨none, (some 3), (.box 2 (.t 1))⟩, ⟨none, (some 4), (.mv (.k (.v (.string (bs [])))))⟩]
def r_s_l27Line_1 : List CO := [⟨none, (some 5), (.mv (.t 0))⟩, ⟨none, (some 6), (.call n_s_l1Num [(.t 5)])⟩, ⟨none, (some 7), (.bin .add .none (.t 6) (.k (.v (.string (bs [32])))))⟩, ⟨none, (some 8), (.faddr 0 (.t 3))⟩, ⟨none, (some 9), (.ld false 1 (.t 8))⟩, ⟨none, (some 10), (.bin .add .none (.t 7) (.t 9))⟩, ⟨none, (some 11), (.bin .add .none (.t 10) (.k (.v (.string (bs [64])))))⟩, ⟨none, (some 12), (.faddr 1 (.t 3))⟩, ⟨none, (some 13), (.ld false 1 (.t 12))⟩, ⟨none, (some 14), (.bin .add .none (.t 11) (.t 13))⟩, ⟨none, (some 15), (.call n_s_l1Seal [(.t 14)])⟩, ⟨none, (some 16), (.bin .add .none (.t 15) (.k (.v (.string (bs [10])))))⟩, ⟨none, (some 4), (.mv (.t 16))⟩]
def p_s_l27Line_1 : List (List Nat) := [[], [0], [0, 1], [], [3], [0, 1, 2, 3, 4], [0, 1, 2, 3, 4, 5], [], [7], [0, 1, 2, 3, 4, 5, 6, 7, 8], [0, 1, 2, 3, 4, 5, 6, 7, 8, 9], [0, 1, 2, 3, 4, 5, 6, 7, 8, 9, 10], [0, 1, 2, 3, 4, 5, 6, 7, 8, 9, 10, 11]]
/-- loop.example/g00884/spec.l27Line -/
def c_s_l27Line : C := (.seq (.reg r_s_l27Line_0 [0, 3]) (.seq (.regD r_s_l27Line_1 p_s_l27Line_1 [4]) .ret))
def k_s_l27Line : Nat → List Nat
  | 0 => [0, 3]
  | 1 => [4]
  | _ => []
theorem fn_s_l27Line : FnC Tryz.prog n_s_l27Line c_s_l27Line [(.tmp 4)] 17 :=
  ⟨Tryz.f233, _, k_s_l27Line, Tryz.func233, rfl, by kernel_rfl, by kernel_rfl, by kernel_rfl, rfl⟩
def r_i_AppendChecksum_0 : List CO := [⟨none, (some 2), (.mv (.k (.v (.string (bs [])))))⟩, ⟨none, (some 3), (.mv (.k (.v (.bool false))))⟩]
def r_i_AppendChecksum_1 : List CO := [⟨none, (some 5), (.mv (.t 0))⟩, ⟨none, (some 6), (.len true (.t 5))⟩, ⟨none, (some 7), (.bin .gtr .none (.t 6) (.k (.v (.int .i64 (4000)))))⟩, ⟨none, (some 8), (.mv (.t 7))⟩, ⟨(some (8, false)), (some 9), (.mv (.t 0))⟩, ⟨(some (8, false)), (some 10), (.call n_strings_Contains [(.t 9), (.k (.v (.string (bs [35]))))])⟩, ⟨none, (some 11), (.pick (.t 8) (.k (.v (.bool true))) (.t 10))⟩]
def r_i_AppendChecksum_2 : List CO := [⟨none, (some 2), (.mv (.k (.v (.string (bs [])))))⟩, ⟨none, (some 3), (.mv (.k (.v (.bool false))))⟩]
def r_i_AppendChecksum_3 : List CO := [⟨none, (some 12), (.mv (.t 0))⟩, ⟨none, (some 13), (.bin .add .none (.t 12) (.k (.v (.string (bs [35])))))⟩, ⟨none, (some 14), (.mv (.t 0))⟩, ⟨none, (some 15), (.call n_i_checksum [(.t 14)])⟩, ⟨none, (some 16), (.call n_strconv_Itoa [(.t 15)])⟩, ⟨none, (some 17), (.bin .add .none (.t 13) (.t 16))⟩, ⟨none, (some 4), (.mv (.t 17))⟩]
def r_i_AppendChecksum_4 : List CO := [⟨none, (some 18), (.mv (.t 4))⟩, ⟨none, (some 19), (.len true (.t 18))⟩, ⟨none, (some 20), (.bin .gtr .none (.t 19) (.k (.v (.int .i64 (4000)))))⟩]
def r_i_AppendChecksum_5 : List CO := [⟨none, (some 2), (.mv (.k (.v (.string (bs [])))))⟩, ⟨none, (some 3), (.mv (.k (.v (.bool false))))⟩]
def r_i_AppendChecksum_6 : List CO := [⟨none, (some 21), (.mv (.t 4))⟩, ⟨none, (some 2), (.mv (.t 21))⟩, ⟨none, (some 3), (.mv (.k (.v (.bool true))))⟩]
/-- loop.example/g00884/impl.AppendChecksum -/
def c_i_AppendChecksum : C := (.seq (.reg r_i_AppendChecksum_0 [0]) (.seq (.seq (.reg r_i_AppendChecksum_1 [0, 11]) (.cond (.t 11) (.seq (.reg r_i_AppendChecksum_2 [2, 3]) .ret) .skip)) (.seq (.reg r_i_AppendChecksum_3 [4]) (.seq (.seq (.reg r_i_AppendChecksum_4 [4, 20]) (.cond (.t 20) (.seq (.reg r_i_AppendChecksum_5 [2, 3]) .ret) .skip)) (.seq (.reg r_i_AppendChecksum_6 [2, 3]) .ret)))))
def k_i_AppendChecksum : Nat → List Nat
  | 0 => [0]
  | 1 => [0, 11]
  | 2 => [2, 3]
  | 3 => [4]
  | 4 => [4, 20]
  | 5 => [2, 3]
  | 6 => [2, 3]
  | _ => []
theorem fn_i_AppendChecksum : FnC Tryz.prog n_i_AppendChecksum c_i_AppendChecksum [(.tmp 2), (.tmp 3)] 22 :=
  ⟨Tryz.f255, _, k_i_AppendChecksum, Tryz.func255, rfl, by kernel_rfl, by kernel_rfl, by kernel_rfl, rfl⟩
def r_i_encodeRecord_0 : List CO := [⟨none, (some 3), (.box 2 (.t 1))⟩, ⟨none, (some 4), (.mv (.k (.v (.string (bs [])))))⟩]
def r_i_encodeRecord_1 : List CO := [⟨none, (some 8), (.mv (.t 0))⟩, ⟨none, (some 9), (.call n_strconv_Itoa [(.t 8)])⟩, ⟨none, (some 10), (.bin .add .none (.t 9) (.k (.v (.string (bs [32])))))⟩, ⟨none, (some 11), (.faddr 0 (.t 3))⟩, ⟨none, (some 12), (.ld false 1 (.t 11))⟩, ⟨none, (some 13), (.bin .add .none (.t 10) (.t 12))⟩, ⟨none, (some 14), (.bin .add .none (.t 13) (.k (.v (.string (bs [64])))))⟩, ⟨none, (some 15), (.faddr 1 (.t 3))⟩, ⟨none, (some 16), (.ld false 1 (.t 15))⟩, ⟨none, (some 17), (.bin .add .none (.t 14) (.t 16))⟩, ⟨none, (some 18), (.call n_i_AppendChecksum [(.t 17)])⟩, ⟨none, (some 7), (.mv (.t 18))⟩, ⟨none, (some 19), (.ext (.t 7) 0)⟩, ⟨none, (some 20), (.ext (.t 7) 1)⟩, ⟨none, (some 5), (.mv (.t 19))⟩, ⟨none, (some 6), (.mv (.t 20))⟩]
def p_i_encodeRecord_1 : List (List Nat) := [[], [0], [0, 1], [], [3], [0, 1, 2, 3, 4], [0, 1, 2, 3, 4, 5], [], [7], [0, 1, 2, 3, 4, 5, 6, 7, 8], [0, 1, 2, 3, 4, 5, 6, 7, 8, 9], [0, 1, 2, 3, 4, 5, 6, 7, 8, 9, 10], [0, 1, 2, 3, 4, 5, 6, 7, 8, 9, 10, 11], [0, 1, 2, 3, 4, 5, 6, 7, 8, 9, 10, 11], [0, 1, 2, 3, 4, 5, 6, 7, 8, 9, 10, 11, 12], [0, 1, 2, 3, 4, 5, 6, 7, 8, 9, 10, 11, 12, 13, 14]]
def r_i_encodeRecord_2 : List CO := [⟨none, (some 21), (.mv (.t 5))⟩, ⟨none, (some 22), (.bin .add .none (.t 21) (.k (.v (.string (bs [10])))))⟩, ⟨none, (some 4), (.mv (.t 22))⟩]
/-- loop.example/g00884/impl.encodeRecord -/
def c_i_encodeRecord : C := (.seq (.reg r_i_encodeRecord_0 [0, 3]) (.seq (.regD r_i_encodeRecord_1 p_i_encodeRecord_1 [5]) (.seq (.reg r_i_encodeRecord_2 [4]) .ret)))
def k_i_encodeRecord : Nat → List Nat
  | 0 => [0, 3]
  | 1 => [5]
  | 2 => [4]
  | _ => []
theorem fn_i_encodeRecord : FnC Tryz.prog n_i_encodeRecord c_i_encodeRecord [(.tmp 4)] 23 :=
  ⟨Tryz.f236, _, k_i_encodeRecord, Tryz.func236, rfl, by kernel_rfl, by kernel_rfl, by kernel_rfl, rfl⟩
end Go.Proofs.YtbeoijlggphklaaGreatDoor

/- The compact code of the functions, and that it is theirs: written by a program of this claim. -/
namespace Go.Proofs.YtbeoijlggphklaaGreatDoor
open Go.Abs
set_option maxRecDepth 100000
def r_s_l1Stands_0 : List CO := [⟨none, (some 4), (.mv (.k (.v (.bool false))))⟩]
def r_s_l1Stands_1 : List CO := [⟨none, (some 5), (.mv (.k (.v (.int .i64 (0)))))⟩]
def r_s_l1Stands_2 : List CO := [⟨none, (some 6), (.mv (.t 5))⟩, ⟨none, (some 7), (.mv (.t 0))⟩, ⟨none, (some 8), (.len true (.t 7))⟩, ⟨none, (some 9), (.bin .lss .none (.t 6) (.t 8))⟩]
def r_s_l1Stands_3 : List CO := [⟨none, (some 12), (.mv (.t 0))⟩, ⟨none, (some 13), (.mv (.t 5))⟩, ⟨none, (some 14), (.idx (.t 12) (.t 13))⟩, ⟨none, (some 15), (.mv (.t 1))⟩, ⟨none, (some 16), (.bin .eql .none (.t 14) (.t 15))⟩]
def r_s_l1Stands_4 : List CO := [⟨none, (some 4), (.mv (.k (.v (.bool true))))⟩]
def r_s_l1Stands_5 : List CO := [⟨none, (some 10), (.mv (.t 5))⟩, ⟨none, (some 11), (.bin .add .none (.t 10) (.k (.v (.int .i64 (1)))))⟩, ⟨none, (some 5), (.mv (.t 11))⟩]
def l_s_l1Stands_6 : C := (.seq (.seq (.reg r_s_l1Stands_2 [0, 1, 5, 9]) (.cond (.t 9) .skip (.exit 0))) (.seq (.block 1 (.seq (.reg r_s_l1Stands_3 [0, 1, 5, 16]) (.cond (.t 16) (.seq (.reg r_s_l1Stands_4 [4]) .ret) .skip))) (.reg r_s_l1Stands_5 [0, 1, 5])))
def r_s_l1Stands_7 : List CO := [⟨none, (some 4), (.mv (.k (.v (.bool false))))⟩]
/-- loop.example/g00884/spec.l1Stands -/
def c_s_l1Stands : C := (.seq (.reg r_s_l1Stands_0 [0, 1]) (.seq (.seq (.reg r_s_l1Stands_1 [0, 1, 5]) (.block 0 (.loop l_s_l1Stands_6))) (.seq (.reg r_s_l1Stands_7 [4]) .ret)))
def k_s_l1Stands : Nat → List Nat
  | 0 => [0, 1]
  | 1 => [0, 1, 5]
  | 2 => [0, 1, 5, 9]
  | 4 => [0, 1, 5, 16]
  | 5 => [4]
  | 3 => [0, 1, 5]
  | 6 => [4]
  | _ => []
theorem fn_s_l1Stands : FnC Tryz.prog n_s_l1Stands c_s_l1Stands [(.tmp 4)] 17 :=
  ⟨Tryz.f250, _, k_s_l1Stands, Tryz.func250, rfl, by kernel_rfl, by kernel_rfl, by kernel_rfl, rfl⟩
def r_i_isPlain_0 : List CO := [⟨none, (some 2), (.mv (.k (.v (.bool false))))⟩]
def r_i_isPlain_1 : List CO := [⟨none, (some 3), (.mv (.k (.v (.int .i64 (0)))))⟩]
def r_i_isPlain_2 : List CO := [⟨none, (some 4), (.mv (.t 3))⟩, ⟨none, (some 5), (.mv (.t 0))⟩, ⟨none, (some 6), (.len true (.t 5))⟩, ⟨none, (some 7), (.bin .lss .none (.t 4) (.t 6))⟩]
def r_i_isPlain_3 : List CO := [⟨none, (some 10), (.mv (.t 0))⟩, ⟨none, (some 11), (.mv (.t 3))⟩, ⟨none, (some 12), (.idx (.t 10) (.t 11))⟩, ⟨none, (some 13), (.bin .lss .none (.t 12) (.k (.v (.int .u8 (32)))))⟩, ⟨none, (some 14), (.mv (.t 13))⟩, ⟨(some (14, false)), (some 15), (.mv (.t 0))⟩, ⟨(some (14, false)), (some 16), (.mv (.t 3))⟩, ⟨(some (14, false)), (some 17), (.idx (.t 15) (.t 16))⟩, ⟨(some (14, false)), (some 18), (.bin .gtr .none (.t 17) (.k (.v (.int .u8 (126)))))⟩, ⟨none, (some 19), (.pick (.t 14) (.k (.v (.bool true))) (.t 18))⟩, ⟨none, (some 20), (.mv (.t 19))⟩, ⟨(some (20, false)), (some 21), (.mv (.t 0))⟩, ⟨(some (20, false)), (some 22), (.mv (.t 3))⟩, ⟨(some (20, false)), (some 23), (.idx (.t 21) (.t 22))⟩, ⟨(some (20, false)), (some 24), (.bin .eql .none (.t 23) (.k (.v (.int .u8 (35)))))⟩, ⟨none, (some 25), (.pick (.t 20) (.k (.v (.bool true))) (.t 24))⟩]
def r_i_isPlain_4 : List CO := [⟨none, (some 2), (.mv (.k (.v (.bool false))))⟩]
def r_i_isPlain_5 : List CO := [⟨none, (some 8), (.mv (.t 3))⟩, ⟨none, (some 9), (.bin .add .none (.t 8) (.k (.v (.int .i64 (1)))))⟩, ⟨none, (some 3), (.mv (.t 9))⟩]
def l_i_isPlain_6 : C := (.seq (.seq (.reg r_i_isPlain_2 [0, 3, 7]) (.cond (.t 7) .skip (.exit 0))) (.seq (.block 1 (.seq (.reg r_i_isPlain_3 [0, 3, 25]) (.cond (.t 25) (.seq (.reg r_i_isPlain_4 [2]) .ret) .skip))) (.reg r_i_isPlain_5 [0, 3])))
def r_i_isPlain_7 : List CO := [⟨none, (some 2), (.mv (.k (.v (.bool true))))⟩]
/-- loop.example/g00884/impl.isPlain -/
def c_i_isPlain : C := (.seq (.reg r_i_isPlain_0 [0]) (.seq (.seq (.reg r_i_isPlain_1 [0, 3]) (.block 0 (.loop l_i_isPlain_6))) (.seq (.reg r_i_isPlain_7 [2]) .ret)))
def k_i_isPlain : Nat → List Nat
  | 0 => [0]
  | 1 => [0, 3]
  | 2 => [0, 3, 7]
  | 4 => [0, 3, 25]
  | 5 => [2]
  | 3 => [0, 3]
  | 6 => [2]
  | _ => []
theorem fn_i_isPlain : FnC Tryz.prog n_i_isPlain c_i_isPlain [(.tmp 2)] 26 :=
  ⟨Tryz.f253, _, k_i_isPlain, Tryz.func253, rfl, by kernel_rfl, by kernel_rfl, by kernel_rfl, rfl⟩
def r_s_l27Plain_0 : List CO := [⟨none, (some 4), (.mv (.k (.v (.bool false))))⟩]
def r_s_l27Plain_1 : List CO := [⟨none, (some 5), (.mv (.k (.v (.int .i64 (0)))))⟩]
def r_s_l27Plain_2 : List CO := [⟨none, (some 6), (.mv (.t 5))⟩, ⟨none, (some 7), (.mv (.t 0))⟩, ⟨none, (some 8), (.len true (.t 7))⟩, ⟨none, (some 9), (.bin .lss .none (.t 6) (.t 8))⟩]
def r_s_l27Plain_3 : List CO := [⟨none, (some 12), (.mv (.t 0))⟩, ⟨none, (some 13), (.mv (.t 5))⟩, ⟨none, (some 14), (.idx (.t 12) (.t 13))⟩, ⟨none, (some 15), (.conv (.int .i64) (.t 14))⟩, ⟨none, (some 16), (.call n_s_l1In [(.t 15), (.k (.v (.int .i64 (32)))), (.k (.v (.int .i64 (126))))])⟩, ⟨none, (some 17), (.un .not (.t 16))⟩, ⟨none, (some 18), (.mv (.t 17))⟩, ⟨(some (18, false)), (some 19), (.mv (.t 0))⟩, ⟨(some (18, false)), (some 20), (.mv (.t 5))⟩, ⟨(some (18, false)), (some 21), (.idx (.t 19) (.t 20))⟩, ⟨(some (18, false)), (some 22), (.bin .eql .none (.t 21) (.k (.v (.int .u8 (35)))))⟩, ⟨none, (some 23), (.pick (.t 18) (.k (.v (.bool true))) (.t 22))⟩]
def r_s_l27Plain_4 : List CO := [⟨none, (some 4), (.mv (.k (.v (.bool false))))⟩]
def r_s_l27Plain_5 : List CO := [⟨none, (some 10), (.mv (.t 5))⟩, ⟨none, (some 11), (.bin .add .none (.t 10) (.k (.v (.int .i64 (1)))))⟩, ⟨none, (some 5), (.mv (.t 11))⟩]
def l_s_l27Plain_6 : C := (.seq (.seq (.reg r_s_l27Plain_2 [0, 1, 5, 9]) (.cond (.t 9) .skip (.exit 0))) (.seq (.block 1 (.seq (.reg r_s_l27Plain_3 [0, 1, 5, 23]) (.cond (.t 23) (.seq (.reg r_s_l27Plain_4 [4]) .ret) .skip))) (.reg r_s_l27Plain_5 [0, 1, 5])))
def r_s_l27Plain_7 : List CO := [⟨none, (some 24), (.mv (.t 0))⟩, ⟨none, (some 25), (.len true (.t 24))⟩, ⟨none, (some 26), (.mv (.t 1))⟩, ⟨none, (some 27), (.bin .leq .none (.t 25) (.t 26))⟩, ⟨none, (some 4), (.mv (.t 27))⟩]
/-- loop.example/g00884/spec.l27Plain -/
def c_s_l27Plain : C := (.seq (.reg r_s_l27Plain_0 [0, 1]) (.seq (.seq (.reg r_s_l27Plain_1 [0, 1, 5]) (.block 0 (.loop l_s_l27Plain_6))) (.seq (.reg r_s_l27Plain_7 [4]) .ret)))
def k_s_l27Plain : Nat → List Nat
  | 0 => [0, 1]
  | 1 => [0, 1, 5]
  | 2 => [0, 1, 5, 9]
  | 4 => [0, 1, 5, 23]
  | 5 => [4]
  | 3 => [0, 1, 5]
  | 6 => [4]
  | _ => []
theorem fn_s_l27Plain : FnC Tryz.prog n_s_l27Plain c_s_l27Plain [(.tmp 4)] 28 :=
  ⟨Tryz.f249, _, k_s_l27Plain, Tryz.func249, rfl, by kernel_rfl, by kernel_rfl, by kernel_rfl, rfl⟩
def r_i_IsValidRecord_0 : List CO := [⟨none, (some 1), (.box 2 (.t 0))⟩, ⟨none, (some 2), (.mv (.k (.v (.bool false))))⟩]
def r_i_IsValidRecord_1 : List CO := [⟨none, (some 3), (.faddr 0 (.t 1))⟩, ⟨none, (some 4), (.ld false 1 (.t 3))⟩, ⟨none, (some 5), (.len true (.t 4))⟩, ⟨none, (some 6), (.call n_i_inside [(.t 5), (.k (.v (.int .i64 (1)))), (.k (.v (.int .i64 (160))))])⟩, ⟨none, (some 7), (.mv (.t 6))⟩, ⟨(some (7, true)), (some 8), (.faddr 1 (.t 1))⟩, ⟨(some (7, true)), (some 9), (.ld false 1 (.t 8))⟩, ⟨(some (7, true)), (some 10), (.len true (.t 9))⟩, ⟨(some (7, true)), (some 11), (.bin .leq .none (.t 10) (.k (.v (.int .i64 (200)))))⟩, ⟨none, (some 12), (.pick (.t 7) (.t 11) (.k (.v (.bool false))))⟩, ⟨none, (some 13), (.mv (.t 12))⟩, ⟨(some (13, true)), (some 14), (.faddr 0 (.t 1))⟩, ⟨(some (13, true)), (some 15), (.ld false 1 (.t 14))⟩, ⟨(some (13, true)), (some 16), (.call n_i_isPlain [(.t 15)])⟩, ⟨none, (some 17), (.pick (.t 13) (.t 16) (.k (.v (.bool false))))⟩, ⟨none, (some 18), (.mv (.t 17))⟩, ⟨(some (18, true)), (some 19), (.faddr 1 (.t 1))⟩, ⟨(some (18, true)), (some 20), (.ld false 1 (.t 19))⟩, ⟨(some (18, true)), (some 21), (.call n_i_isPlain [(.t 20)])⟩, ⟨none, (some 22), (.pick (.t 18) (.t 21) (.k (.v (.bool false))))⟩, ⟨none, (some 23), (.mv (.t 22))⟩, ⟨(some (23, true)), (some 24), (.faddr 0 (.t 1))⟩, ⟨(some (23, true)), (some 25), (.ld false 1 (.t 24))⟩, ⟨(some (23, true)), (some 26), (.call n_strings_Contains [(.t 25), (.k (.v (.string (bs [64]))))])⟩, ⟨(some (23, true)), (some 27), (.un .not (.t 26))⟩, ⟨none, (some 28), (.pick (.t 23) (.t 27) (.k (.v (.bool false))))⟩, ⟨none, (some 2), (.mv (.t 28))⟩]
/-- loop.example/g00884/impl.IsValidRecord -/
def c_i_IsValidRecord : C := (.seq (.reg r_i_IsValidRecord_0 [1]) (.seq (.reg r_i_IsValidRecord_1 [2]) .ret))
def k_i_IsValidRecord : Nat → List Nat
  | 0 => [1]
  | 1 => [2]
  | _ => []
theorem fn_i_IsValidRecord : FnC Tryz.prog n_i_IsValidRecord c_i_IsValidRecord [(.tmp 2)] 29 :=
  ⟨Tryz.f235, _, k_i_IsValidRecord, Tryz.func235, rfl, by kernel_rfl, by kernel_rfl, by kernel_rfl, rfl⟩
def r_s_l27Good_0 : List CO := [⟨none, (some 1), (.box 2 (.t 0))⟩, ⟨none, (some 2), (.mv (.k (.v (.bool false))))⟩]
def r_s_l27Good_1 : List CO := [⟨none, (some 3), (.faddr 0 (.t 1))⟩, ⟨none, (some 4), (.ld false 1 (.t 3))⟩, ⟨none, (some 5), (.bin .neq .none (.t 4) (.k (.v (.string (bs [])))))⟩, ⟨none, (some 6), (.mv (.t 5))⟩, ⟨(some (6, true)), (some 7), (.faddr 0 (.t 1))⟩, ⟨(some (6, true)), (some 8), (.ld false 1 (.t 7))⟩, ⟨(some (6, true)), (some 9), (.call n_s_l27Plain [(.t 8), (.k (.v (.int .i64 (160))))])⟩, ⟨none, (some 10), (.pick (.t 6) (.t 9) (.k (.v (.bool false))))⟩, ⟨none, (some 11), (.mv (.t 10))⟩, ⟨(some (11, true)), (some 12), (.faddr 0 (.t 1))⟩, ⟨(some (11, true)), (some 13), (.ld false 1 (.t 12))⟩, ⟨(some (11, true)), (some 14), (.call n_s_l1Stands [(.t 13), (.k (.v (.int .u8 (64))))])⟩, ⟨(some (11, true)), (some 15), (.un .not (.t 14))⟩, ⟨none, (some 16), (.pick (.t 11) (.t 15) (.k (.v (.bool false))))⟩, ⟨none, (some 17), (.mv (.t 16))⟩, ⟨(some (17, true)), (some 18), (.faddr 1 (.t 1))⟩, ⟨(some (17, true)), (some 19), (.ld false 1 (.t 18))⟩, ⟨(some (17, true)), (some 20), (.call n_s_l27Plain [(.t 19), (.k (.v (.int .i64 (200))))])⟩, ⟨none, (some 21), (.pick (.t 17) (.t 20) (.k (.v (.bool false))))⟩, ⟨none, (some 2), (.mv (.t 21))⟩]
/-- loop.example/g00884/spec.l27Good -/
def c_s_l27Good : C := (.seq (.reg r_s_l27Good_0 [1]) (.seq (.reg r_s_l27Good_1 [2]) .ret))
def k_s_l27Good : Nat → List Nat
  | 0 => [1]
  | 1 => [2]
  | _ => []
theorem fn_s_l27Good : FnC Tryz.prog n_s_l27Good c_s_l27Good [(.tmp 2)] 22 :=
  ⟨Tryz.f232, _, k_s_l27Good, Tryz.func232, rfl, by kernel_rfl, by kernel_rfl, by kernel_rfl, rfl⟩
end Go.Proofs.YtbeoijlggphklaaGreatDoor

/- Records of the log: the test, in the program and in the reference. -/
set_option linter.unusedVariables false
set_option linter.unusedSimpArgs false
namespace Go.Proofs.YtbeoijlggphklaaGreatDoor
open Go.Abs

structure LogRecord where
  command : List UInt8
  reply : List UInt8
  deriving DecidableEq
/-- How it lies in memory. -/
abbrev eLogRecord (r : LogRecord) : V := .agg [S r.command, S r.reply]

theorem indexByte_has (s : List UInt8) (c : UInt8) : decide (0 ≤ Lib.indexByte s c) = s.contains c := by
  induction s with
  | nil => rfl
  | cons x s ih =>
    have hg := Lib.indexByte_ge s c
    rw [List.contains_cons, Lib.indexByte]
    by_cases h : x = c
    · subst h; simp
    · have h1 : (x == c) = false := by simpa using h
      have h2 : (c == x) = false := by simpa using fun e : c = x => h e.symm
      rw [h1, h2, Bool.false_or, ← ih]
      simp only [Bool.false_eq_true, if_false]
      split
      · rename_i e
        have : Lib.indexByte s c = -1 := by simpa using e
        rw [this]
      · rw [decide_eq_decide]
        rename_i e
        have : ¬ Lib.indexByte s c = -1 := by simpa using e
        omega

theorem strings_Contains (s : List UInt8) (c : UInt8) : PCall Tryz.prog n_strings_Contains [S s, S [c]] (B (s.contains c)) := by
  rw [← indexByte_has]
  exact PCall.same (vs := [.string (bs s), .string (bs [c])]) (y := .bool (decide (0 ≤ Lib.indexByte s c))) (by kernel_rfl) (fun _ _ => CV_mkv rfl) (fun w _ _ => Tryz.strings_Contains_one (bs s) c w)

/-- Printable, and no number sign. -/
def plainB (b : UInt8) : Bool := decide (32 ≤ (b.toNat : Int) ∧ (b.toNat : Int) ≤ 126 ∧ (b.toNat : Int) ≠ 35)
def plain (s : List UInt8) : Bool := s.all plainB
def record (r : LogRecord) : Bool := inR r.command.length 1 160 && decide (r.reply.length ≤ 200) && plain r.command && plain r.reply && !(r.command.contains 64)
theorem all_take_false {α : Type} {p : α → Bool} {l : List α} {i : Nat} (h : i < l.length) (hp : p l[i] = false) : l.all p = false := by
  rw [← Bool.not_eq_true, List.all_eq_true]
  intro h'
  rw [h' _ (List.getElem_mem h)] at hp; cases hp

theorem s_l1Stands (s : List UInt8) (c : UInt8) : PCall Tryz.prog n_s_l1Stands [S s, Y c] (B (s.contains c)) := by
  refine PCall.ofL fn_s_l1Stands (by simp) fun hs => ?_
  simp at hs
  simp [c_s_l1Stands, r_s_l1Stands_0, r_s_l1Stands_1, r_s_l1Stands_7]
  refine loopK (fun i : Nat => ⟨[(0, S s), (1, Y c), (5, I i)], [], []⟩) (fun i => s.length - i) (fun i => i ≤ s.length ∧ (s.take i).contains c = false) 0 (Wk.list rfl (by simp) (by simp)) (by simp) ?_
  rintro i ⟨hi, hj⟩ K hN hR hE
  simp [r_s_l1Stands_2, l_s_l1Stands_6]
  refine ⟨fun hlt => ?_, fun hge => ?_⟩
  · simp [r_s_l1Stands_3, hlt]
    refine ⟨fun h => ?_, fun h => ?_⟩
    · simp [r_s_l1Stands_4]
      refine hR _ ?_
      simp only [blockK_ret]
      have : c ∈ s := by rw [← h]; exact List.getElem_mem _
      simp [this]
    · simp [r_s_l1Stands_5]
      rw [wrap64 (by omega) (by omega)]
      refine hN (i + 1) _ (by omega) ⟨by omega, ?_⟩ (Wk.list rfl (by simp) (by simp))
      have hj' : c ∉ s.take i := by simpa using hj
      have : c ∉ s.take (i + 1) := by
        rw [← List.take_append_getElem hlt, List.mem_append]
        rintro (h' | h')
        · exact hj' h'
        · exact h (List.mem_singleton.1 h').symm
      simpa using this
  · refine hE _ _ ?_
    rw [List.take_of_length_le (by omega)] at hj
    simp only [blockK_exit]
    simp at hj ⊢
    exact hj

theorem i_isPlain (s : List UInt8) : PCall Tryz.prog n_i_isPlain [S s] (B (plain s)) := by
  refine PCall.ofL fn_i_isPlain (by simp) fun hs => ?_
  simp at hs
  simp [c_i_isPlain, r_i_isPlain_0, r_i_isPlain_1, r_i_isPlain_7]
  refine loopK (fun i : Nat => ⟨[(0, S s), (3, I i)], [], []⟩) (fun i => s.length - i) (fun i => i ≤ s.length ∧ (s.take i).all plainB = true) 0 (Wk.list rfl (by simp) (by simp)) (by simp) ?_
  rintro i ⟨hi, hj⟩ K hN hR hE
  simp [r_i_isPlain_2, l_i_isPlain_6]
  refine ⟨fun hlt => ?_, fun hge => ?_⟩
  · have hno : plainB s[i] = false → ∀ hp, K .ret ⟨[(2, B false)], hp, []⟩ := fun h hp => hR _ (by simp only [blockK_ret]; simp [plain, all_take_false hlt h])
    have hyes : plainB s[i] = true → ∀ hp, K .normal ⟨[(0, S s), (3, I ((i : Int) + 1))], hp, []⟩ := fun h hp => hN (i + 1) _ (by omega) ⟨by omega, by rw [all_take_succ hlt, hj, h]; rfl⟩ (Wk.list rfl (by simp) (by simp))
    simp [r_i_isPlain_3, hlt]
    obtain ⟨b, e⟩ : ∃ b, s[i] = b := ⟨_, rfl⟩
    rw [e] at hno hyes ⊢
    refine ⟨fun h1 => ⟨fun h2 => ⟨fun h3 => ?_, fun h3 => ?_⟩, fun h2 => ?_⟩, fun h1 => ?_⟩
    · simp [r_i_isPlain_4, h3]
      exact hno (by simp [plainB]; omega) _
    · simp [r_i_isPlain_5, h3]
      rw [wrap64 (by omega) (by omega)]
      exact hyes (by simp [plainB]; omega) _
    · simp [r_i_isPlain_4]
      exact hno (by simp [plainB]; omega) _
    · simp [r_i_isPlain_4]
      exact hno (by simp [plainB]; omega) _
  · refine hE _ _ ?_
    rw [List.take_of_length_le (by omega)] at hj
    simp only [blockK_exit]
    simp [plain, hj]

theorem s_l27Plain (s : List UInt8) (n : Int) : PCall Tryz.prog n_s_l27Plain [S s, I n] (B (plain s && decide ((s.length : Int) ≤ n))) := by
  refine PCall.ofL fn_s_l27Plain (by simp) fun hs => ?_
  simp at hs
  simp [c_s_l27Plain, r_s_l27Plain_0, r_s_l27Plain_1, r_s_l27Plain_7]
  refine loopK (fun i : Nat => ⟨[(0, S s), (1, I n), (5, I i)], [], []⟩) (fun i => s.length - i) (fun i => i ≤ s.length ∧ (s.take i).all plainB = true) 0 (Wk.list rfl (by simp) (by simp)) (by simp) ?_
  rintro i ⟨hi, hj⟩ K hN hR hE
  simp [r_s_l27Plain_2, l_s_l27Plain_6]
  refine ⟨fun hlt => ?_, fun hge => ?_⟩
  · have hno : plainB s[i] = false → ∀ hp, K .ret ⟨[(4, B false)], hp, []⟩ := fun h hp => hR _ (by simp only [blockK_ret]; simp [plain, all_take_false hlt h])
    have hyes : plainB s[i] = true → ∀ hp, K .normal ⟨[(0, S s), (1, I n), (5, I ((i : Int) + 1))], hp, []⟩ := fun h hp => hN (i + 1) _ (by omega) ⟨by omega, by rw [all_take_succ hlt, hj, h]; rfl⟩ (Wk.list rfl (by simp) (by simp))
    have hb := s[i].toNat_lt
    obtain ⟨b, e⟩ : ∃ b, s[i] = b := ⟨_, rfl⟩
    rw [e] at hno hyes hb
    simp [r_s_l27Plain_3, hlt, e]
    rw [wrap64 (by omega) (by omega)]
    refine callQ_v (s_l1In ..) ?_
    cases h1 : inR (b.toNat : Int) 32 126 with
    | false =>
      have h1 := inR_not.1 h1
      simp [r_s_l27Plain_4]
      exact hno (by simp [plainB]; omega) _
    | true =>
      have h1 := inR_iff.1 h1
      simp [hlt, e]
      refine ⟨fun h3 => ?_, fun h3 => ?_⟩
      · simp [r_s_l27Plain_4, h3]
        exact hno (by simp [plainB]; omega) _
      · simp [r_s_l27Plain_5, h3]
        rw [wrap64 (by omega) (by omega)]
        exact hyes (by simp [plainB]; omega) _
  · refine hE _ _ ?_
    rw [List.take_of_length_le (by omega)] at hj
    simp only [blockK_exit]
    simp [plain, hj]

theorem i_IsValidRecord (r : LogRecord) : PCall Tryz.prog n_i_IsValidRecord [eLogRecord r] (B (record r)) := by
  refine PCall.ofL fn_i_IsValidRecord (by simp) fun hl => ?_
  simp at hl
  simp [c_i_IsValidRecord, r_i_IsValidRecord_0, r_i_IsValidRecord_1]
  refine callQ_v (i_inside ..) ?_
  cases h1 : inR r.command.length 1 160 with
  | false => simp [record, h1]
  | true =>
  by_cases h2 : r.reply.length ≤ 200
  rotate_left
  · have : ¬ (r.reply.length : Int) ≤ 200 := by omega
    simp [record, h1, h2, this]
  have h2' : (r.reply.length : Int) ≤ 200 := by omega
  simp [h2']
  refine callQ_v (i_isPlain ..) ?_
  cases h3 : plain r.command with
  | false => simp [record, h1, h2, h3]
  | true =>
  simp
  refine callQ_v (i_isPlain ..) ?_
  cases h4 : plain r.reply with
  | false => simp [record, h1, h2, h3, h4]
  | true =>
  simp
  refine callQ_v (strings_Contains ..) ?_
  simp [record, h1, h2, h3, h4]

theorem record_ne {r : LogRecord} : (r.command.length ≠ 0 ∧ (r.command.length : Int) ≤ 160) ↔ inR r.command.length 1 160 = true := by
  rw [inR_iff]; omega

theorem s_l27Good (r : LogRecord) : PCall Tryz.prog n_s_l27Good [eLogRecord r] (B (record r)) := by
  refine PCall.ofL fn_s_l27Good (by simp) fun hl => ?_
  simp at hl
  simp [c_s_l27Good, r_s_l27Good_0, r_s_l27Good_1]
  refine ⟨fun h0 => ?_, fun h0 => by simp [record, h0, inR]⟩
  have h0 : 0 < r.command.length := List.length_pos_iff.2 h0
  refine callQ_v (s_l27Plain ..) ?_
  have h1 : (plain r.command && decide ((r.command.length : Int) ≤ 160)) = (inR r.command.length 1 160 && plain r.command) := by
    rw [Bool.and_comm]; congr 1
    rw [Bool.eq_iff_iff, inR_iff, decide_eq_true_iff]; omega
  rw [h1]
  cases h1 : inR r.command.length 1 160 with
  | false => simp [record, h1]
  | true =>
  cases h2 : plain r.command with
  | false => simp [record, h1, h2]
  | true =>
  simp
  refine callQ_v (s_l1Stands r.command 64) ?_
  cases h3 : r.command.contains 64 with
  | true => simp at h3; simp [record, h1, h2, h3]
  | false =>
  simp
  refine callQ_v (s_l27Plain ..) ?_
  have h4 : ((r.reply.length : Int) ≤ 200) = (r.reply.length ≤ 200) := by apply propext; omega
  simp at h3
  simp [record, h1, h2, h3, h4, Bool.and_comm]

end Go.Proofs.YtbeoijlggphklaaGreatDoor

/- The log of records as plain rows of bytes: lines, what is read back, valid logs. No program in sight. -/
set_option linter.unusedVariables false
set_option linter.unusedSimpArgs false
namespace Go.Proofs.YtbeoijlggphklaaGreatDoor
open Go.Abs

/-! ### The checksum, a record's line -/
def sumStep (h : Int) (b : UInt8) : Int := (41 * h + b.toNat + 1) % 999979
def sumT (s : List UInt8) : Int := s.foldl sumStep 7
theorem sumStep_bounds {h : Int} (h0 : 0 ≤ h) (b : UInt8) : 0 ≤ sumStep h b ∧ sumStep h b < 999979 := by
  unfold sumStep
  constructor
  · exact Int.emod_nonneg _ (by omega)
  · exact Int.emod_lt_of_pos _ (by omega)
theorem foldl_bounds : ∀ (s : List UInt8) {h : Int}, 0 ≤ h → h < 999979 → 0 ≤ s.foldl sumStep h ∧ s.foldl sumStep h < 999979
  | [], h, h0, h1 => ⟨h0, h1⟩
  | b :: s, h, h0, h1 => by
    have := sumStep_bounds h0 b
    exact foldl_bounds s this.1 this.2
theorem sumT_bounds (s : List UInt8) : 0 ≤ sumT s ∧ sumT s < 999979 := foldl_bounds s (by omega) (by omega)
def sealT (s : List UInt8) : List UInt8 := s ++ 35 :: digits (sumT s).toNat
def body (k : Nat) (e : LogRecord) : List UInt8 := digits k ++ 32 :: (e.command ++ 64 :: e.reply)
/-- A record's line, without its end. -/
def enc (k : Nat) (e : LogRecord) : List UInt8 := sealT (body k e)

theorem plain_mem {s : List UInt8} (h : plain s = true) {b : UInt8} (hb : b ∈ s) : 32 ≤ b.toNat ∧ b.toNat ≤ 126 ∧ b ≠ 35 := by
  have := List.all_eq_true.1 h b hb
  simp only [plainB, decide_eq_true_iff] at this
  refine ⟨by omega, by omega, ?_⟩
  rintro rfl
  exact this.2.2 rfl
theorem record_iff {r : LogRecord} : record r = true ↔ (1 ≤ r.command.length ∧ r.command.length ≤ 160) ∧ r.reply.length ≤ 200 ∧ plain r.command = true ∧ plain r.reply = true ∧ 64 ∉ r.command := by
  simp only [record, Bool.and_eq_true, inR_iff, decide_eq_true_iff, Bool.not_eq_true', List.contains_eq_mem, decide_eq_false_iff_not]
  constructor
  · rintro ⟨⟨⟨⟨h1, h2⟩, h3⟩, h4⟩, h5⟩
    exact ⟨by omega, h2, h3, h4, h5⟩
  · rintro ⟨h1, h2, h3, h4, h5⟩
    exact ⟨⟨⟨⟨by omega, h2⟩, h3⟩, h4⟩, h5⟩
theorem digits_not {n : Nat} {b : UInt8} (h : b.toNat < 48 ∨ 57 < b.toNat) : b ∉ digits n := fun hb => by
  have := digits_range n b hb; omega
theorem body_not35 {k : Nat} {e : LogRecord} (h : record e = true) : (35 : UInt8) ∉ body k e := by
  obtain ⟨_, _, h1, h2, _⟩ := record_iff.1 h
  unfold body
  simp only [List.mem_append, List.mem_cons, not_or]
  refine ⟨digits_not (by decide), by decide, fun hb => (plain_mem h1 hb).2.2 rfl, by decide, fun hb => (plain_mem h2 hb).2.2 rfl⟩
theorem enc_not10 {k : Nat} {e : LogRecord} (h : record e = true) : (10 : UInt8) ∉ enc k e := by
  obtain ⟨_, _, h1, h2, _⟩ := record_iff.1 h
  unfold enc sealT body
  simp only [List.mem_append, List.mem_cons, not_or]
  refine ⟨⟨digits_not (by decide), by decide, fun hb => ?_, by decide, fun hb => ?_⟩, by decide, digits_not (by decide)⟩
  · have := (plain_mem h1 hb).1; simp at this
  · have := (plain_mem h2 hb).1; simp at this
theorem body_len {k : Nat} {e : LogRecord} (hk : k < 100) (h : record e = true) : (body k e).length ≤ 364 := by
  obtain ⟨h1, h2, _⟩ := record_iff.1 h
  have := digits_len 1 k (by omega)
  unfold body
  simp only [List.length_append, List.length_cons]
  omega
theorem enc_len {k : Nat} {e : LogRecord} (hk : k < 100) (h : record e = true) : (enc k e).length ≤ 371 := by
  have h1 := body_len hk h
  have h2 := digits_len 5 (sumT (body k e)).toNat (by have := sumT_bounds (body k e); omega)
  unfold enc sealT
  simp only [List.length_append, List.length_cons]
  omega

/-! ### A line read back -/
def readE (line : List UInt8) : LogRecord := ⟨cut0 64 (cut1 32 (cut0 35 line)), cut1 64 (cut1 32 (cut0 35 line))⟩
/-- The record number k that a line without its end stands for. -/
def dec (k : Nat) (line : List UInt8) : Option LogRecord := if record (readE line) = true ∧ enc k (readE line) = line then some (readE line) else none
theorem readE_enc {k : Nat} {e : LogRecord} (h : record e = true) : readE (enc k e) = e := by
  obtain ⟨_, _, h1, h2, h3⟩ := record_iff.1 h
  unfold readE enc sealT
  rw [cut0_at (body_not35 h)]
  unfold body
  rw [cut1_at (digits_not (by decide)), cut0_at h3, cut1_at h3]
theorem dec_iff {k : Nat} {line : List UInt8} {e : LogRecord} : dec k line = some e ↔ record e = true ∧ enc k e = line := by
  unfold dec
  constructor
  · intro h
    split at h
    · rename_i hc
      simp only [Option.some.injEq] at h
      rw [← h]; exact hc
    · cases h
  · rintro ⟨h1, rfl⟩
    rw [readE_enc h1, if_pos ⟨h1, rfl⟩]
theorem dec_none {k : Nat} {line : List UInt8} : dec k line = none ↔ ∀ e, record e = true → enc k e ≠ line := by
  constructor
  · intro h e he hl
    rw [dec_iff.2 ⟨he, hl⟩] at h; cases h
  · intro h
    cases hd : dec k line with
    | none => rfl
    | some e => exact absurd (dec_iff.1 hd).2 (h e (dec_iff.1 hd).1)
/-- The record number k at the head of a text. -/
def decLine (k : Nat) (s : List UInt8) : Option LogRecord := if (10 : UInt8) ∈ s then dec k (cut0 10 s) else none
theorem decLine_iff {k : Nat} {s : List UInt8} {e : LogRecord} : decLine k s = some e ↔ record e = true ∧ ∃ r, s = enc k e ++ 10 :: r := by
  unfold decLine
  constructor
  · intro h
    split at h
    · rename_i hm
      obtain ⟨h1, h2⟩ := dec_iff.1 h
      exact ⟨h1, _, by rw [h2]; exact (cut_split hm).1⟩
    · cases h
  · rintro ⟨h1, r, rfl⟩
    rw [if_pos (by simp), cut0_at (enc_not10 h1)]
    exact dec_iff.2 ⟨h1, rfl⟩

/-! ### All records of a text -/
/-- At most n records from number k on. -/
def recs : Nat → Nat → List UInt8 → List LogRecord
  | 0, _, _ => []
  | n + 1, k, s => match decLine k s with
    | some e => e :: recs n (k + 1) (s.drop ((enc k e).length + 1))
    | none => []
/-- Records as they are written. -/
def encs : Nat → List LogRecord → List UInt8
  | _, [] => []
  | k, e :: es => enc k e ++ 10 :: encs (k + 1) es
theorem encs_append : ∀ (k : Nat) (a b : List LogRecord), encs k (a ++ b) = encs k a ++ encs (k + a.length) b
  | k, [], b => by simp [encs]
  | k, e :: a, b => by
    rw [List.cons_append, encs, encs, encs_append (k + 1) a b]
    simp [Nat.add_comm, Nat.add_left_comm]
theorem recs_len : ∀ (n k : Nat) (s : List UInt8), (recs n k s).length ≤ n
  | 0, _, _ => by simp [recs]
  | n + 1, k, s => by
    rw [recs]
    split
    · have := recs_len n (k + 1) (s.drop ((enc k ‹_›).length + 1))
      simp only [List.length_cons]; omega
    · simp
theorem drop_line {a r : List UInt8} : (a ++ 10 :: r).drop (a.length + 1) = r := by
  rw [← List.drop_drop, List.drop_left]; rfl
theorem drop_line' {c : UInt8} {a r : List UInt8} (_ : c ∉ a) : (a ++ c :: r).drop (a.length + 1) = r := by
  rw [← List.drop_drop, List.drop_left]; rfl
theorem recs_ok : ∀ (n k : Nat) (s : List UInt8), (∀ e ∈ recs n k s, record e = true) ∧ ∃ r, s = encs k (recs n k s) ++ r
  | 0, k, s => ⟨by simp [recs], s, by simp [recs, encs]⟩
  | n + 1, k, s => by
    rw [recs]
    split
    · rename_i e he
      obtain ⟨h1, r, rfl⟩ := decLine_iff.1 he
      rw [drop_line]
      obtain ⟨g1, r', g2⟩ := recs_ok n (k + 1) r
      refine ⟨?_, r', ?_⟩
      · intro x hx
        rcases List.mem_cons.1 hx with rfl | hx
        · exact h1
        · exact g1 x hx
      · rw [encs]
        conv => lhs; rw [g2]
        simp
    · exact ⟨by simp, s, by simp [encs]⟩
theorem recs_encs : ∀ (es : List LogRecord) (n k : Nat) (r : List UInt8), (∀ e ∈ es, record e = true) → recs (es.length + n) k (encs k es ++ r) = es ++ recs n (k + es.length) r
  | [], n, k, r, _ => by simp [encs]
  | e :: es, n, k, r, h => by
    have h1 := h e List.mem_cons_self
    rw [List.length_cons, show es.length + 1 + n = (es.length + n) + 1 by omega, recs, encs]
    have hd : decLine k (enc k e ++ 10 :: encs (k + 1) es ++ r) = some e := decLine_iff.2 ⟨h1, encs (k + 1) es ++ r, by simp⟩
    rw [hd]
    simp only
    rw [List.append_assoc, List.cons_append, drop_line, recs_encs es n (k + 1) r (fun x hx => h x (List.mem_cons_of_mem _ hx))]
    simp [Nat.add_comm, Nat.add_left_comm]
theorem recs_nil : ∀ (n k : Nat), recs n k [] = []
  | 0, _ => rfl
  | n + 1, k => by
    rw [recs]
    have : decLine k [] = none := by simp [decLine]
    rw [this]

def openL (s : List UInt8) : List LogRecord := recs 60 0 s
/-- How many bytes are read. -/
def openN (s : List UInt8) : Nat := (encs 0 (openL s)).length
theorem openN_le (s : List UInt8) : openN s ≤ s.length := by
  obtain ⟨_, r, h⟩ := recs_ok 60 0 s
  unfold openN openL
  conv => rhs; rw [h]
  simp
theorem open_split (s : List UInt8) : s = encs 0 (openL s) ++ s.drop (openN s) := by
  obtain ⟨_, r, h⟩ := recs_ok 60 0 s
  unfold openN openL
  have : s.drop (encs 0 (recs 60 0 s)).length = r := by
    conv => lhs; arg 2; rw [h]
    exact List.drop_left
  rw [this]; exact h

/-- A valid log. -/
def logOk (l : Log) : Bool := decide (openN (l.durable ++ l.pending) = l.durable.length + l.pending.length) && (decide (openN l.durable = l.durable.length) && decide (((openL (l.durable ++ l.pending)).length : Int) = l.count))

/-- The first j records end where the durable part ends: the same as that the durable part is read whole. -/
theorem open_prefix {d p : List UInt8} (h : openN (d ++ p) = (d ++ p).length) : openN d = d.length ↔ ∃ j, j ≤ (openL (d ++ p)).length ∧ (encs 0 ((openL (d ++ p)).take j)).length = d.length := by
  have hs := open_split (d ++ p)
  have hr := (recs_ok 60 0 (d ++ p)).1
  rw [h, List.drop_length, List.append_nil] at hs
  constructor
  · intro hd
    have hsd := open_split d
    rw [hd, List.drop_length, List.append_nil] at hsd
    have hl := recs_len 60 0 d
    have hrd := (recs_ok 60 0 d).1
    have e : openL (d ++ p) = openL d ++ recs (60 - (openL d).length) (0 + (openL d).length) p := by
      have := recs_encs (openL d) (60 - (openL d).length) 0 p hrd
      rw [← hsd, show (openL d).length + (60 - (openL d).length) = 60 by have h60 : (openL d).length ≤ 60 := hl; omega] at this
      exact this
    refine ⟨(openL d).length, by rw [e]; simp, ?_⟩
    rw [e, List.take_left]
    exact congrArg List.length hsd.symm
  · rintro ⟨j, hj, hl⟩
    have e : encs 0 (openL (d ++ p)) = encs 0 ((openL (d ++ p)).take j) ++ encs (0 + ((openL (d ++ p)).take j).length) ((openL (d ++ p)).drop j) := by
      rw [← encs_append, List.take_append_drop]
    rw [e] at hs
    have hd : d = encs 0 ((openL (d ++ p)).take j) := (List.append_inj hs hl.symm).1
    have hlen := recs_len 60 0 (d ++ p)
    have hn : ((openL (d ++ p)).take j).length ≤ 60 := by rw [List.length_take]; unfold openL at hj ⊢; omega
    have := recs_encs ((openL (d ++ p)).take j) (60 - ((openL (d ++ p)).take j).length) 0 [] (fun x hx => hr x (List.mem_of_mem_take hx))
    rw [List.append_nil, ← hd, recs_nil, List.append_nil, show ((openL (d ++ p)).take j).length + (60 - ((openL (d ++ p)).take j).length) = 60 by omega] at this
    have ho : openL d = (openL (d ++ p)).take j := this
    unfold openN
    rw [ho]; exact hl
theorem encs_len : ∀ (es : List LogRecord) (k : Nat), k + es.length ≤ 100 → (∀ e ∈ es, record e = true) → (encs k es).length ≤ 372 * es.length
  | [], _, _, _ => by simp [encs]
  | e :: es, k, hk, h => by
    rw [List.length_cons] at hk
    have h1 := enc_len (k := k) (by omega) (h e List.mem_cons_self)
    have h2 := encs_len es (k + 1) (by omega) (fun x hx => h x (List.mem_cons_of_mem _ hx))
    rw [encs]
    simp only [List.length_append, List.length_cons]
    omega
theorem openN_bound (s : List UInt8) : openN s ≤ 22320 := by
  have h1 := recs_len 60 0 s
  have h2 := encs_len (openL s) 0 (by unfold openL; omega) (recs_ok 60 0 s).1
  unfold openN
  unfold openL at h2 ⊢
  omega

/-! ### A line read back by the reference -/
def ahead (k : Nat) : List UInt8 := digits k ++ [32]
def specAt (k : Nat) (line : List UInt8) : Bool := decide ((ahead k).length ≤ (cut0 35 line).length) && decide ((cut0 35 line).take (ahead k).length = ahead k)
def specRest (k : Nat) (line : List UInt8) : List UInt8 := (cut0 35 line).drop (ahead k).length
def specE (k : Nat) (line : List UInt8) : LogRecord := ⟨cut0 64 (specRest k line), (specRest k line).drop ((cut0 64 (specRest k line)).length + 1)⟩
theorem spec_enc {k : Nat} {e : LogRecord} (h : record e = true) : specAt k (enc k e) = true ∧ (cut0 64 (specRest k (enc k e))).length ≠ (specRest k (enc k e)).length ∧ specE k (enc k e) = e := by
  obtain ⟨_, _, _, _, h3⟩ := record_iff.1 h
  have hb : cut0 35 (enc k e) = ahead k ++ (e.command ++ 64 :: e.reply) := by
    unfold enc sealT
    rw [cut0_at (body_not35 h)]
    simp [body, ahead]
  have hr : specRest k (enc k e) = e.command ++ 64 :: e.reply := by
    unfold specRest
    rw [hb, List.drop_left]
  refine ⟨?_, ?_, ?_⟩
  · unfold specAt
    rw [hb, List.take_left]; simp
  · rw [hr, cut0_at h3]; simp
  · unfold specE
    rw [hr, cut0_at h3, drop_line' h3]
theorem spec_dec {k : Nat} {line : List UInt8} : (dec k line).isSome = (specAt k line && (!decide ((cut0 64 (specRest k line)).length = (specRest k line).length) && (record (specE k line) && decide (enc k (specE k line) = line)))) := by
  cases hd : dec k line with
  | some e =>
    obtain ⟨h1, rfl⟩ := dec_iff.1 hd
    obtain ⟨g1, g2, g3⟩ := spec_enc (k := k) h1
    simp [g1, g2, g3, h1]
  | none =>
    rw [eq_comm]
    simp only [Option.isSome_none, Bool.and_eq_false_iff, Bool.not_eq_false', decide_eq_true_iff, decide_eq_false_iff_not]
    by_cases h : record (specE k line) = true
    · exact .inr (.inr (.inr (dec_none.1 hd _ h)))
    · exact .inr (.inr (.inl (by simpa using h)))
theorem spec_dec_some {k : Nat} {line : List UInt8} {e : LogRecord} (h : dec k line = some e) : specE k line = e := by
  obtain ⟨h1, rfl⟩ := dec_iff.1 h
  exact (spec_enc h1).2.2
end Go.Proofs.YtbeoijlggphklaaGreatDoor

/- The compact code of the functions, and that it is theirs: written by a program of this claim. -/
namespace Go.Proofs.YtbeoijlggphklaaGreatDoor
open Go.Abs
set_option maxRecDepth 100000
def r_s_l1Num_0 : List CO := [⟨none, (some 2), (.mv (.k (.v (.string (bs [])))))⟩]
def r_s_l1Num_1 : List CO := [⟨none, (some 3), (.mv (.t 0))⟩, ⟨none, (some 4), (.bin .lss .none (.t 3) (.k (.v (.int .i64 (0)))))⟩]
def r_s_l1Num_2 : List CO := [⟨none, (some 5), (.mv (.t 0))⟩, ⟨none, (some 6), (.un .neg (.t 5))⟩, ⟨none, (some 7), (.call n_s_l1Num [(.t 6)])⟩, ⟨none, (some 8), (.bin .add .none (.k (.v (.string (bs [45])))) (.t 7))⟩, ⟨none, (some 2), (.mv (.t 8))⟩]
def r_s_l1Num_3 : List CO := [⟨none, (some 9), (.mv (.t 0))⟩, ⟨none, (some 10), (.bin .lss .none (.t 9) (.k (.v (.int .i64 (10)))))⟩]
def r_s_l1Num_4 : List CO := [⟨none, (some 11), (.mv (.t 0))⟩, ⟨none, (some 12), (.mv (.t 0))⟩, ⟨none, (some 13), (.bin .add .none (.t 12) (.k (.v (.int .i64 (1)))))⟩, ⟨none, (some 14), (.slc none (.k (.v (.string (bs [48, 49, 50, 51, 52, 53, 54, 55, 56, 57])))) (some (.t 11)) (some (.t 13)))⟩, ⟨none, (some 2), (.mv (.t 14))⟩]
def r_s_l1Num_5 : List CO := [⟨none, (some 15), (.mv (.t 0))⟩, ⟨none, (some 16), (.bin .quo .none (.t 15) (.k (.v (.int .i64 (10)))))⟩, ⟨none, (some 17), (.call n_s_l1Num [(.t 16)])⟩, ⟨none, (some 18), (.mv (.t 0))⟩, ⟨none, (some 19), (.bin .rem .none (.t 18) (.k (.v (.int .i64 (10)))))⟩, ⟨none, (some 20), (.mv (.t 0))⟩, ⟨none, (some 21), (.bin .rem .none (.t 20) (.k (.v (.int .i64 (10)))))⟩, ⟨none, (some 22), (.bin .add .none (.t 21) (.k (.v (.int .i64 (1)))))⟩, ⟨none, (some 23), (.slc none (.k (.v (.string (bs [48, 49, 50, 51, 52, 53, 54, 55, 56, 57])))) (some (.t 19)) (some (.t 22)))⟩, ⟨none, (some 24), (.bin .add .none (.t 17) (.t 23))⟩, ⟨none, (some 2), (.mv (.t 24))⟩]
def p_s_l1Num_5 : List (List Nat) := [[], [0], [0, 1], [], [3], [], [5], [5, 6], [3, 4, 5, 6, 7], [0, 1, 2, 3, 4, 5, 6, 7, 8], [0, 1, 2, 3, 4, 5, 6, 7, 8, 9]]
/-- loop.example/g00884/spec.l1Num -/
def c_s_l1Num : C := (.seq (.reg r_s_l1Num_0 [0]) (.seq (.seq (.reg r_s_l1Num_1 [0, 4]) (.cond (.t 4) (.seq (.reg r_s_l1Num_2 [2]) .ret) .skip)) (.seq (.seq (.reg r_s_l1Num_3 [0, 10]) (.cond (.t 10) (.seq (.reg r_s_l1Num_4 [2]) .ret) .skip)) (.seq (.regD r_s_l1Num_5 p_s_l1Num_5 [2]) .ret))))
def k_s_l1Num : Nat → List Nat
  | 0 => [0]
  | 1 => [0, 4]
  | 2 => [2]
  | 3 => [0, 10]
  | 4 => [2]
  | 5 => [2]
  | _ => []
theorem fn_s_l1Num : FnC Tryz.prog n_s_l1Num c_s_l1Num [(.tmp 2)] 25 :=
  ⟨Tryz.f63, _, k_s_l1Num, Tryz.func63, rfl, by kernel_rfl, by kernel_rfl, by kernel_rfl, rfl⟩
end Go.Proofs.YtbeoijlggphklaaGreatDoor

/- Numbers as texts, in the program's library and in the reference. -/
set_option linter.unusedVariables false
set_option linter.unusedSimpArgs false
namespace Go.Proofs.YtbeoijlggphklaaGreatDoor
open Go.Abs

theorem s_l1Num (n : Nat) : n ≤ 1000000000 → PCall Tryz.prog n_s_l1Num [I n] (S (digits n)) := by
  induction n using Nat.strongRecOn with
  | _ n ih =>
    intro hn
    refine PCall.of fn_s_l1Num (by simp) ?_
    simp [c_s_l1Num, r_s_l1Num_0, r_s_l1Num_1, show ¬ (n : Int) < 0 by omega]
    simp [r_s_l1Num_3]
    refine ⟨fun h => ?_, fun h => ?_⟩
    · simp [r_s_l1Num_4]
      rw [wrap64 (by omega) (by omega)]
      have hd := dig_slice (i := n) (by omega)
      refine ⟨by omega, ?_⟩
      rw [show ((n : Int) + 1).toNat - n = 1 by omega, hd, digits_small (by omega)]
    · have e1 : IntKind.i64.wrap ((n : Int) / 10) = ((n / 10 : Nat) : Int) := by rw [wrap64 (by omega) (by omega)]; omega
      have e2 : (n : Int).tmod 10 = ((n % 10 : Nat) : Int) := by rw [Int.tmod_eq_emod_of_nonneg (by omega)]; omega
      have hl := digits_le (n / 10)
      have hd := dig_slice (i := n % 10) (by omega)
      simp [r_s_l1Num_5, p_s_l1Num_5]
      rw [e1]
      refine callD_v (ih (n / 10) (by omega) (by omega)) ?_ ?_ ?_
      · simp
      · simp
      simp
      obtain ⟨m, hm, hmn⟩ : ∃ m, m < 10 ∧ n % 10 = m := ⟨n % 10, by omega, rfl⟩
      rw [hmn] at e2 hd
      rw [e2, wrap64 (by omega) (by omega), show ((m : Int) + 1).toNat - (m : Int).toNat = 1 by omega, show (m : Int).toNat = m by omega, hd]
      refine ⟨by omega, by omega, oEnd_of (by first | kernel_rfl | simp) (by first | kernel_rfl | simp), ?_⟩
      rw [digits_big (n := n) (by omega), hmn]

theorem strconv_Itoa (n : Nat) (h : n ≤ 1000000000) : PCall Tryz.prog n_strconv_Itoa [I n] (S (digits n)) := by
  have e : Lib.itoa (n : Int) = digits n := by
    unfold Lib.itoa
    rw [if_neg (by omega)]
    rfl
  refine PCall.grown (vs := [.int .i64 n]) (y := .string (bs (digits n))) (by kernel_rfl) (fun _ _ => CV_mkv ?_) (fun w D hg => ?_)
  · have := digits_le n
    show decide _ = true
    simp; omega
  · have := Tryz.strconv_Itoa n (by omega) (by omega) w hg.1
    rw [e] at this
    exact this
end Go.Proofs.YtbeoijlggphklaaGreatDoor

/- Numbers as texts, checksums, the lines of records; in the program and in the reference. -/
set_option linter.unusedVariables false
set_option linter.unusedSimpArgs false
namespace Go.Proofs.YtbeoijlggphklaaGreatDoor
open Go.Abs

theorem i_checksum (s : List UInt8) : PCall Tryz.prog n_i_checksum [S s] (I (sumT s)) := by
  refine PCall.ofL fn_i_checksum (by simp) fun hs => ?_
  simp at hs
  simp [c_i_checksum, r_i_checksum_0, r_i_checksum_1, r_i_checksum_2, l_i_checksum_6]
  refine loopK (fun i : Nat => ⟨[(0, S s), (3, I ((s.take i).foldl sumStep 7)), (4, I i)], [], []⟩) (fun i => s.length - i) (fun i => i ≤ s.length) 0 (Wk.list rfl (by simp) (by simp)) (by simp) ?_
  intro i hi K hN hR hE
  simp [r_i_checksum_3]
  refine ⟨fun hlt => ?_, fun hge => ?_⟩
  · have hb := foldl_bounds (s.take i) (h := 7) (by omega) (by omega)
    have hy := s[i].toNat_lt
    have e : (s.take (i + 1)).foldl sumStep 7 = (41 * (s.take i).foldl sumStep 7 + s[i].toNat + 1) % 999979 := by
      rw [← List.take_append_getElem hlt, List.foldl_append]; rfl
    generalize (s.take i).foldl sumStep 7 = h at hb e
    simp [r_i_checksum_4, hlt]
    rw [wrap64 (n := 41 * h) (by omega) (by omega), wrap64 (n := (s[i].toNat : Int)) (by omega) (by omega), wrap64 (n := 41 * h + s[i].toNat) (by omega) (by omega), wrap64 (n := 41 * h + s[i].toNat + 1) (by omega) (by omega), Int.tmod_eq_emod_of_nonneg (by omega), ← e]
    simp [r_i_checksum_5]
    rw [wrap64 (by omega) (by omega)]
    exact hN (i + 1) _ (by omega) (by omega) (Wk.list rfl (by simp) (by simp))
  · refine hE _ _ ?_
    obtain rfl : i = s.length := by omega
    simp only [blockK_exit]
    simp [r_i_checksum_7, sumT]

theorem s_l1Sum (s : List UInt8) : PCall Tryz.prog n_s_l1Sum [S s] (I (sumT s)) := by
  refine PCall.ofL fn_s_l1Sum (by simp) fun hs => ?_
  simp at hs
  simp [c_s_l1Sum, r_s_l1Sum_0, r_s_l1Sum_1, r_s_l1Sum_2, l_s_l1Sum_6]
  refine loopK (fun i : Nat => ⟨[(0, S s), (3, I ((s.take i).foldl sumStep 7)), (4, I i)], [], []⟩) (fun i => s.length - i) (fun i => i ≤ s.length) 0 (Wk.list rfl (by simp) (by simp)) (by simp) ?_
  intro i hi K hN hR hE
  simp [r_s_l1Sum_3]
  refine ⟨fun hlt => ?_, fun hge => ?_⟩
  · have hb := foldl_bounds (s.take i) (h := 7) (by omega) (by omega)
    have hy := s[i].toNat_lt
    have e : (s.take (i + 1)).foldl sumStep 7 = (41 * (s.take i).foldl sumStep 7 + s[i].toNat + 1) % 999979 := by
      rw [← List.take_append_getElem hlt, List.foldl_append]; rfl
    generalize (s.take i).foldl sumStep 7 = h at hb e
    simp [r_s_l1Sum_4, hlt]
    rw [wrap64 (n := 41 * h) (by omega) (by omega), wrap64 (n := (s[i].toNat : Int)) (by omega) (by omega), wrap64 (n := 41 * h + s[i].toNat) (by omega) (by omega), wrap64 (n := 41 * h + s[i].toNat + 1) (by omega) (by omega), Int.tmod_eq_emod_of_nonneg (by omega), ← e]
    simp [r_s_l1Sum_5]
    rw [wrap64 (by omega) (by omega)]
    exact hN (i + 1) _ (by omega) (by omega) (Wk.list rfl (by simp) (by simp))
  · refine hE _ _ ?_
    obtain rfl : i = s.length := by omega
    simp only [blockK_exit]
    simp [r_s_l1Sum_7, sumT]


theorem s_l1Seal (s : List UInt8) (h : s.length ≤ 1000000) : PCall Tryz.prog n_s_l1Seal [S s] (S (sealT s)) := by
  have hb := sumT_bounds s
  have hl := digits_len 5 (sumT s).toNat (by omega)
  refine PCall.of fn_s_l1Seal (by simp) ?_
  simp [c_s_l1Seal, r_s_l1Seal_0, r_s_l1Seal_1]
  refine ⟨by omega, ?_⟩
  refine callQ_v (s_l1Sum s) ?_
  simp
  refine callQ_v (PCall.arg (s_l1Num (sumT s).toNat (by omega)) (by simp; omega)) ?_
  simp [sealT]
  omega

theorem s_l27Line (k : Nat) (e : LogRecord) (hk : k < 100) (h : record e = true) : PCall Tryz.prog n_s_l27Line [I k, eLogRecord e] (S (enc k e ++ [10])) := by
  obtain ⟨h1, h2, _⟩ := record_iff.1 h
  have hl := digits_len 1 k (by omega)
  have hL := body_len hk h
  have hE := enc_len hk h
  refine PCall.of fn_s_l27Line (by simp) ?_
  simp [c_s_l27Line, r_s_l27Line_0, r_s_l27Line_1, p_s_l27Line_1]
  refine callD_v (s_l1Num k (by omega)) ?_ ?_ ?_
  · simp
  · simp
  simp
  refine ⟨by omega, by omega, by omega, by omega, ?_⟩
  refine callD_v (PCall.arg (s_l1Seal (body k e) (by omega)) (by simp [body])) ?_ ?_ ?_
  · simp
  · simp
  have hE' : (sealT (body k e)).length ≤ 371 := hE
  simp [enc]
  exact ⟨by omega, oEnd_of (by first | kernel_rfl | simp) (by first | kernel_rfl | simp)⟩

theorem i_AppendChecksum (s : List UInt8) (h : s.length ≤ 3000) (hn : (35 : UInt8) ∉ s) : PCall Tryz.prog n_i_AppendChecksum [S s] (.tup [S (sealT s), B true]) := by
  have hb := sumT_bounds s
  have hl := digits_len 5 (sumT s).toNat (by omega)
  have hc : s.contains 35 = false := by simpa using hn
  refine PCall.of fn_i_AppendChecksum (by simp) ?_
  simp [c_i_AppendChecksum, r_i_AppendChecksum_0, r_i_AppendChecksum_1, show ¬ (4000 < (s.length : Int)) by omega]
  refine callQ_v (strings_Contains s 35) ?_
  rw [hc]
  simp [r_i_AppendChecksum_3]
  refine ⟨by omega, ?_⟩
  refine callQ_v (i_checksum s) ?_
  simp
  refine callQ_v (PCall.arg (strconv_Itoa (sumT s).toNat (by omega)) (by simp; omega)) ?_
  simp
  refine ⟨by omega, ?_⟩
  simp [r_i_AppendChecksum_4]
  refine ⟨fun h' => by omega, fun _ => ?_⟩
  simp [r_i_AppendChecksum_6, sealT]

theorem i_encodeRecord (k : Nat) (e : LogRecord) (hk : k < 100) (h : record e = true) : PCall Tryz.prog n_i_encodeRecord [I k, eLogRecord e] (S (enc k e ++ [10])) := by
  obtain ⟨h1, h2, _⟩ := record_iff.1 h
  have hl := digits_len 1 k (by omega)
  have hL := body_len hk h
  have hE := enc_len hk h
  refine PCall.of fn_i_encodeRecord (by simp) ?_
  simp [c_i_encodeRecord, r_i_encodeRecord_0, r_i_encodeRecord_1, p_i_encodeRecord_1]
  refine callD_v (strconv_Itoa k (by omega)) ?_ ?_ ?_
  · simp
  · simp
  simp
  refine ⟨by omega, by omega, by omega, by omega, ?_⟩
  refine callD_of (PCall.arg (i_AppendChecksum (body k e) (by omega) (body_not35 h)) (by simp [body])) rfl (.inl (by simp)) ?_ ?_ ?_
  · simp
  · simp
  have hE' : (sealT (body k e)).length ≤ 371 := hE
  simp
  refine ⟨oEnd_of (by first | kernel_rfl | simp) (by first | kernel_rfl | simp), ?_⟩
  simp [r_i_encodeRecord_2, enc]
  omega

/-- The text of record k. -/
def encR (k : Int) (e : LogRecord) : List UInt8 := if inR k 0 59 && record e then enc k.toNat e ++ [10] else []
end Go.Proofs.YtbeoijlggphklaaGreatDoor

/- The compact code of the functions, and that it is theirs: written by a program of this claim. -/
namespace Go.Proofs.YtbeoijlggphklaaGreatDoor
open Go.Abs
set_option maxRecDepth 100000
def r_s_l1Split_0 : List CO := [⟨none, (some 4), (.mv (.k (.v (.slice none 0 0))))⟩]
def r_s_l1Split_1 : List CO := [⟨none, (some 8), (.bslice 1 (.v (.string (bs []))) 0 [])⟩, ⟨none, (some 5), (.mv (.t 8))⟩]
def r_s_l1Split_2 : List CO := [⟨none, (some 6), (.mv (.k (.v (.int .i64 (0)))))⟩]
def r_s_l1Split_3 : List CO := [⟨none, (some 7), (.mv (.k (.v (.int .i64 (0)))))⟩]
def r_s_l1Split_4 : List CO := [⟨none, (some 9), (.mv (.t 7))⟩, ⟨none, (some 10), (.mv (.t 0))⟩, ⟨none, (some 11), (.len true (.t 10))⟩, ⟨none, (some 12), (.bin .lss .none (.t 9) (.t 11))⟩]
def r_s_l1Split_5 : List CO := [⟨none, (some 15), (.mv (.t 0))⟩, ⟨none, (some 16), (.mv (.t 7))⟩, ⟨none, (some 17), (.idx (.t 15) (.t 16))⟩, ⟨none, (some 18), (.mv (.t 1))⟩, ⟨none, (some 19), (.bin .eql .none (.t 17) (.t 18))⟩]
def r_s_l1Split_6 : List CO := [⟨none, (some 20), (.mv (.t 5))⟩, ⟨none, (some 21), (.mv (.t 0))⟩, ⟨none, (some 22), (.mv (.t 6))⟩, ⟨none, (some 23), (.mv (.t 7))⟩, ⟨none, (some 24), (.slc none (.t 21) (some (.t 22)) (some (.t 23)))⟩, ⟨none, (some 25), (.bslice 1 (.v (.string (bs []))) 1 [(0, (.t 24))])⟩, ⟨none, (some 26), (.app 1 16 (.t 20) (.t 25))⟩, ⟨none, (some 5), (.mv (.t 26))⟩]
def r_s_l1Split_7 : List CO := [⟨none, (some 27), (.mv (.t 7))⟩, ⟨none, (some 28), (.bin .add .none (.t 27) (.k (.v (.int .i64 (1)))))⟩, ⟨none, (some 6), (.mv (.t 28))⟩]
def r_s_l1Split_8 : List CO := [⟨none, (some 13), (.mv (.t 7))⟩, ⟨none, (some 14), (.bin .add .none (.t 13) (.k (.v (.int .i64 (1)))))⟩, ⟨none, (some 7), (.mv (.t 14))⟩]
def l_s_l1Split_9 : C := (.seq (.seq (.reg r_s_l1Split_4 [0, 1, 5, 6, 7, 12]) (.cond (.t 12) .skip (.exit 0))) (.seq (.block 1 (.seq (.reg r_s_l1Split_5 [0, 1, 5, 6, 7, 19]) (.cond (.t 19) (.seq (.reg r_s_l1Split_6 [0, 1, 5, 7]) (.reg r_s_l1Split_7 [0, 1, 5, 6, 7])) .skip))) (.reg r_s_l1Split_8 [0, 1, 5, 6, 7])))
def r_s_l1Split_10 : List CO := [⟨none, (some 29), (.mv (.t 5))⟩, ⟨none, (some 30), (.mv (.t 0))⟩, ⟨none, (some 31), (.mv (.t 6))⟩, ⟨none, (some 32), (.slc none (.t 30) (some (.t 31)) none)⟩, ⟨none, (some 33), (.bslice 1 (.v (.string (bs []))) 1 [(0, (.t 32))])⟩, ⟨none, (some 34), (.app 1 16 (.t 29) (.t 33))⟩, ⟨none, (some 4), (.mv (.t 34))⟩]
/-- loop.example/g00884/spec.l1Split -/
def c_s_l1Split : C := (.seq (.reg r_s_l1Split_0 [0, 1]) (.seq (.reg r_s_l1Split_1 [0, 1, 5]) (.seq (.reg r_s_l1Split_2 [0, 1, 5, 6]) (.seq (.seq (.reg r_s_l1Split_3 [0, 1, 5, 6, 7]) (.block 0 (.loop l_s_l1Split_9))) (.seq (.reg r_s_l1Split_10 [4]) .ret)))))
def k_s_l1Split : Nat → List Nat
  | 0 => [0, 1]
  | 1 => [0, 1, 5]
  | 2 => [0, 1, 5, 6]
  | 3 => [0, 1, 5, 6, 7]
  | 4 => [0, 1, 5, 6, 7, 12]
  | 6 => [0, 1, 5, 6, 7, 19]
  | 7 => [0, 1, 5, 7]
  | 8 => [0, 1, 5, 6, 7]
  | 5 => [0, 1, 5, 6, 7]
  | 9 => [4]
  | _ => []
theorem fn_s_l1Split : FnC Tryz.prog n_s_l1Split c_s_l1Split [(.tmp 4)] 35 :=
  ⟨Tryz.f92, _, k_s_l1Split, Tryz.func92, rfl, by kernel_rfl, by kernel_rfl, by kernel_rfl, rfl⟩
end Go.Proofs.YtbeoijlggphklaaGreatDoor

/- The reference's split of a text at a byte. -/
set_option linter.unusedVariables false
set_option linter.unusedSimpArgs false
namespace Go.Proofs.YtbeoijlggphklaaGreatDoor
open Go.Abs

theorem s_l1Split (s : List UInt8) (c : UInt8) (hs : s.length ≤ 4000000) : PCall Tryz.prog n_s_l1Split [S s, Y c] (.own 1 ((parts c s).map S)) := by
  refine PCall.of fn_s_l1Split (by simp) ?_
  simp [c_s_l1Split, r_s_l1Split_0, r_s_l1Split_1, r_s_l1Split_2, r_s_l1Split_3, l_s_l1Split_9]
  refine loopK (fun p : List (List UInt8) × Nat × Nat => ⟨[(0, S s), (1, Y c), (5, .sl 8 0 p.1.length), (6, I p.2.1), (7, I p.2.2)], [(8, ⟨1, p.1.map S⟩)], []⟩) (fun p => s.length - p.2.2)
    (fun p => (p.2.1 ≤ p.2.2 ∧ p.2.2 ≤ s.length ∧ p.1.length ≤ p.2.2) ∧ parts c s = p.1 ++ parts c (s.drop p.2.1) ∧ c ∉ (s.drop p.2.1).take (p.2.2 - p.2.1)) ([], 0, 0) (Wk.list rfl (by simp) (by simp)) (by simp) ?_
  rintro ⟨done, j, i⟩ ⟨⟨hji, hi, hd⟩, hp, hc⟩ K hN hR hE
  dsimp only at hji hi hd hp hc
  simp [r_s_l1Split_4]
  refine ⟨fun hlt => ?_, fun hge => ?_⟩
  · have hdr : (s.drop j).drop (i - j) = s[i] :: s.drop (i + 1) := by rw [List.drop_drop, show j + (i - j) = i by omega, List.drop_eq_getElem_cons hlt]
    simp [r_s_l1Split_5, hlt]
    refine ⟨fun h => ?_, fun h => ?_⟩
    · have hsplit : parts c (s.drop j) = (s.drop j).take (i - j) :: parts c (s.drop (i + 1)) := by
        conv => lhs; rw [← List.take_append_drop (i - j) (s.drop j), hdr, h]
        exact parts_at hc
      simp [r_s_l1Split_6]
      refine ⟨by omega, by unfold lenBound; omega, ?_⟩
      simp [r_s_l1Split_7]
      rw [wrap64 (by omega) (by omega)]
      simp [r_s_l1Split_8]
      rw [wrap64 (by omega) (by omega)]
      refine hN (done ++ [(s.drop j).take (i - j)], i + 1, i + 1) _ (by dsimp only; omega) ⟨⟨by dsimp only; omega, by dsimp only; omega, by simp; omega⟩, ?_, by simp⟩ (Wk.trans (Wk.ren 26 8 (by decide) (by simp)) (Wk.list rfl ?_ ?_))
      · rw [hp, hsplit]; simp
      · simp [AS.ren, ren, reN]
      · simp [AS.ren, ren, reN, renB]
    · simp [r_s_l1Split_8]
      rw [wrap64 (by omega) (by omega)]
      refine hN (done, j, i + 1) _ (by dsimp only; omega) ⟨⟨by dsimp only; omega, by dsimp only; omega, by dsimp only; omega⟩, hp, ?_⟩ (Wk.list rfl (by simp) (by simp))
      dsimp only
      have hl : i - j < (s.drop j).length := by rw [List.length_drop]; omega
      rw [show i + 1 - j = i - j + 1 by omega, ← List.take_append_getElem hl, List.mem_append, List.mem_singleton]
      rintro (h' | h')
      · exact hc h'
      · refine h ?_
        rw [h', List.getElem_drop]
        congr 1; omega
  · refine hE _ _ ?_
    obtain rfl : i = s.length := by omega
    have hn : c ∉ s.drop j := by
      rw [List.take_of_length_le (by rw [List.length_drop]; omega)] at hc
      exact hc
    rw [parts_none hn] at hp
    simp only [blockK_exit]
    simp [r_s_l1Split_10]
    rw [List.take_of_length_le (by rw [List.length_drop]; omega), hp]
    exact ⟨by omega, by unfold lenBound; omega, by simp⟩
end Go.Proofs.YtbeoijlggphklaaGreatDoor

/- Texts that are cut and split, in the program (by the library) and in the reference. -/
set_option linter.unusedVariables false
set_option linter.unusedSimpArgs false
namespace Go.Proofs.YtbeoijlggphklaaGreatDoor
open Go.Abs

theorem idxByte_cut (s : List UInt8) (c : UInt8) : Lib.indexByte s c = if c ∈ s then ((cut0 c s).length : Int) else -1 := by
  induction s with
  | nil => rfl
  | cons x s ih =>
    rw [Lib.indexByte, ih]
    by_cases h : x = c
    · subst h; simp [cut0]
    · have hx : (x != c) = true := by simpa using h
      have hc : ¬ c = x := fun e => h e.symm
      by_cases hm : c ∈ s
      · simp [h, hm, hc, cut0]
      · simp [h, hm, hc]

theorem internal_stringslite_Cut (s : List UInt8) (c : UInt8) : PCall Tryz.prog n_internal_stringslite_Cut [S s, S [c]] (.tup [S (cut0 c s), S (cut1 c s), B (decide (c ∈ s))]) := by
  refine PCall.ofL fn_internal_stringslite_Cut (by simp) fun hs => ?_
  simp at hs
  have hI : PCall Tryz.prog n_internal_stringslite_Index [S s, S [c]] (I (Lib.indexByte s c)) :=
    PCall.same (vs := [.string (bs s), .string (bs [c])]) (y := .int .i64 (Lib.indexByte s c)) (by kernel_rfl) (fun _ _ => CV_mkv rfl) (fun w _ _ => Tryz.stringslite_Index_one (bs s) c w)
  rw [idxByte_cut] at hI
  simp [c_internal_stringslite_Cut, r_internal_stringslite_Cut_0, r_internal_stringslite_Cut_1]
  refine callQ_v hI ?_
  by_cases hm : c ∈ s
  · obtain ⟨h1, h2⟩ := cut_split hm
    have hlen := congrArg List.length h1
    simp only [List.length_append, List.length_cons] at hlen
    have e0 : s.take (cut0 c s).length = cut0 c s := by
      rw [show s.take (cut0 c s).length = (cut0 c s ++ c :: cut1 c s).take (cut0 c s).length by rw [← h1]]
      exact List.take_left
    have e1 : s.drop ((cut0 c s).length + 1) = cut1 c s := by
      rw [show s.drop ((cut0 c s).length + 1) = (cut0 c s ++ c :: cut1 c s).drop ((cut0 c s).length + 1) by rw [← h1]]
      exact drop_line' h2
    simp [r_internal_stringslite_Cut_2, hm]
    simp [r_internal_stringslite_Cut_3, p_internal_stringslite_Cut_3]
    rw [wrap64 (by omega) (by omega)]
    rw [show (((cut0 c s).length : Int) + 1).toNat = (cut0 c s).length + 1 by omega, e0, e1, List.take_of_length_le (by omega)]
    exact ⟨by omega, by omega, oEnd_of (by first | kernel_rfl | simp) (by first | kernel_rfl | simp), rfl, rfl, hm⟩
  · simp [r_internal_stringslite_Cut_2, r_internal_stringslite_Cut_4, hm]
    exact ⟨(cut0_none hm).symm, cut1_none hm⟩

theorem strings_Cut (s : List UInt8) (c : UInt8) : PCall Tryz.prog n_strings_Cut [S s, S [c]] (.tup [S (cut0 c s), S (cut1 c s), B (decide (c ∈ s))]) := by
  refine PCall.of fn_strings_Cut (by simp) ?_
  simp [c_strings_Cut, r_strings_Cut_0, r_strings_Cut_1]
  refine callQ_of (internal_stringslite_Cut s c) rfl (.inl (by simp)) (by simp) ?_
  simp
end Go.Proofs.YtbeoijlggphklaaGreatDoor

/- Lines and logs read back, in the program and in the reference. -/
set_option linter.unusedVariables false
set_option linter.unusedSimpArgs false
namespace Go.Proofs.YtbeoijlggphklaaGreatDoor
open Go.Abs

def noRec : LogRecord := ⟨[], []⟩
/-- What the reference returns as the record of a line. -/
def specR (k : Nat) (line : List UInt8) : LogRecord := if specAt k line && !decide ((cut0 64 (specRest k line)).length = (specRest k line).length) then specE k line else noRec
theorem specR_dec {k : Nat} {line : List UInt8} {e : LogRecord} (h : dec k line = some e) : specR k line = e := by
  obtain ⟨h1, rfl⟩ := dec_iff.1 h
  obtain ⟨g1, g2, g3⟩ := spec_enc (k := k) h1
  simp [specR, g1, g2, g3]

theorem cut0_le (c : UInt8) (s : List UInt8) : (cut0 c s).length ≤ s.length := by
  unfold cut0
  exact (List.takeWhile_prefix _).length_le
theorem split_res (s : List UInt8) (c : UInt8) (hs : s.length ≤ 4000000) : ∃ ps : List (List UInt8), parts c s = cut0 c s :: ps ∧ PCall Tryz.prog n_s_l1Split [S s, Y c] (.own 1 ((cut0 c s :: ps).map S)) := by
  have h := parts_head (c := c) s
  cases hp : parts c s with
  | nil => exact absurd hp (parts_ne s)
  | cons p ps =>
    rw [hp] at h
    have h' : p = cut0 c s := h
    subst h'
    exact ⟨ps, rfl, by rw [← hp]; exact s_l1Split s c hs⟩

theorem s_l27Read (line : List UInt8) (k : Nat) (hk : k < 100) (hl : line.length ≤ 4000000) : PCall Tryz.prog n_s_l27Read [S line, I k] (.tup [eLogRecord (specR k line), B (dec k line).isSome]) := by
  have hdl := digits_len 1 k (by omega)
  have hcl := cut0_le 35 line
  obtain ⟨ps, hps, hsp⟩ := split_res line 35 hl
  refine PCall.of fn_s_l27Read (by simp) ?_
  simp [c_s_l27Read, r_s_l27Read_0, r_s_l27Read_1]
  refine callQ_v (s_l1Num k (by omega)) ?_
  simp
  refine ⟨by omega, ?_⟩
  simp [r_s_l27Read_2]
  refine callQ_of hsp rfl (.inl (by simp)) (by simp) ?_
  have ha : digits k ++ [32] = ahead k := rfl
  have hal : (ahead k).length = (digits k).length + 1 := by simp [ahead]
  simp
  by_cases h1 : (ahead k).length ≤ (cut0 35 line).length
  rotate_left
  · have : (dec k line).isSome = false := by rw [spec_dec]; simp [specAt, h1]
    simp [r_s_l27Read_3, r_s_l27Read_4, show ((cut0 35 line).length : Int) < (digits k).length + 1 by omega, this, specR, specAt, h1, noRec]
  simp [r_s_l27Read_3, show ¬ ((cut0 35 line).length : Int) < (digits k).length + 1 by omega]
  refine ⟨⟨by omega, by omega⟩, fun h2 => ?_, fun h2 => ?_⟩
  · have hs : specAt k line = false := by
      simp only [specAt, Bool.and_eq_false_iff, decide_eq_false_iff_not]
      right; rw [hal]; exact h2
    have : (dec k line).isSome = false := by rw [spec_dec, hs]; rfl
    simp [r_s_l27Read_4, this, specR, hs, noRec]
  have hs : specAt k line = true := by
    simp only [specAt, Bool.and_eq_true, decide_eq_true_iff]
    exact ⟨h1, by rw [hal]; exact h2⟩
  have hrest : (cut0 35 line).drop ((digits k).length + 1) = specRest k line := by unfold specRest; rw [hal]
  have hrl : (specRest k line).length ≤ line.length := by rw [← hrest, List.length_drop]; omega
  have hcr := cut0_le 64 (specRest k line)
  obtain ⟨qs, hqs, hsq⟩ := split_res (specRest k line) 64 (by omega)
  simp [r_s_l27Read_5]
  refine ⟨⟨by omega, by omega⟩, ?_⟩
  rw [hrest, List.take_of_length_le (by rw [← hrest, List.length_drop]; omega)]
  simp [r_s_l27Read_6]
  refine callQ_of hsq rfl (.inl (by simp)) (by simp) ?_
  simp [r_s_l27Read_7]
  refine ⟨fun h3 => ?_, fun h3 => ?_⟩
  · have h3' : (cut0 64 (specRest k line)).length = (specRest k line).length := by omega
    have : (dec k line).isSome = false := by rw [spec_dec]; simp [h3']
    simp [r_s_l27Read_8, this, specR, h3', noRec]
  have h3 : ¬ (cut0 64 (specRest k line)).length = (specRest k line).length := by omega
  have hR : specR k line = specE k line := by simp [specR, hs, h3]
  simp [r_s_l27Read_9]
  rw [wrap64 (by omega) (by omega)]
  have hc1 : (cut0 64 (specRest k line)).length < (specRest k line).length := by omega
  refine ⟨⟨by omega, by omega⟩, ?_⟩
  rw [List.take_of_length_le (by rw [List.length_drop]; omega)]
  simp [r_s_l27Read_10, p_s_l27Read_10]
  refine callD_v (PCall.arg (s_l27Good (specE k line)) (by simp [specE])) ?_ ?_ ?_
  · simp
  · simp
  have hd : (dec k line).isSome = (record (specE k line) && decide (enc k (specE k line) = line)) := by rw [spec_dec, hs]; simp [h3]
  cases h4 : record (specE k line) with
  | false =>
    rw [h4] at hd
    simp
    refine ⟨oEnd_of (by simp [p_s_l27Read_10]) (by simp), ?_⟩
    rw [Bool.false_and] at hd
    have hd' : dec k line = none := by simpa using hd
    simp [hd', hR, specE]
  | true =>
    rw [h4] at hd
    simp
    refine callD_v (PCall.arg (s_l27Line k (specE k line) hk h4) (by simp [specE])) ?_ ?_ ?_
    · simp
    · simp
    simp
    refine ⟨by omega, oEnd_of (by simp [p_s_l27Read_10]) (by simp), ?_⟩
    rw [hd, hR, Bool.true_and]
    refine ⟨⟨rfl, rfl⟩, ?_⟩
    rw [Bool.eq_iff_iff]; simp

/-- The record number k at the head of a text, for the program: none behind the sixtieth. -/
def rd (k : Nat) (s : List UInt8) : Option LogRecord := if k < 60 then decLine k s else none
def rdE (k : Nat) (s : List UInt8) : LogRecord := (rd k s).getD noRec
def rdN (k : Nat) (s : List UInt8) : Nat := match rd k s with | some e => (enc k e).length + 1 | none => 0
theorem i_readRecord (s : List UInt8) (k : Nat) (hk : k ≤ 60) (hs : s.length ≤ 4000000) : PCall Tryz.prog n_i_readRecord [S s, I k] (.tup [eLogRecord (rdE k s), I (rdN k s), B (rd k s).isSome]) := by
  have hcl := cut0_le 10 s
  refine PCall.of fn_i_readRecord (by simp) ?_
  simp [c_i_readRecord, r_i_readRecord_0, r_i_readRecord_1]
  refine callQ_of (strings_Cut s 10) rfl (.inl (by simp)) (by simp) ?_
  simp [r_i_readRecord_2]
  refine callQ_of (strings_Cut (cut0 10 s) 35) rfl (.inl (by simp)) (by simp) ?_
  simp [r_i_readRecord_3]
  refine callQ_of (strings_Cut (cut0 35 (cut0 10 s)) 32) rfl (.inl (by simp)) (by simp) ?_
  simp [r_i_readRecord_4]
  refine callQ_of (strings_Cut (cut1 32 (cut0 35 (cut0 10 s))) 64) rfl (.inl (by simp)) (by simp) ?_
  simp [r_i_readRecord_5]
  by_cases h1 : (10 : UInt8) ∈ s
  rotate_left
  · have : rd k s = none := by simp [rd, decLine, h1]
    simp [r_i_readRecord_6, r_i_readRecord_7, h1, rdE, rdN, this, noRec]
  by_cases h2 : 60 ≤ k
  · have : rd k s = none := by simp [rd, show ¬ k < 60 by omega]
    simp [r_i_readRecord_6, r_i_readRecord_7, h1, show (60 : Int) ≤ k by omega, rdE, rdN, this, noRec]
  simp [r_i_readRecord_6, h1, show ¬ (60 : Int) ≤ k by omega]
  have hrd : rd k s = dec k (cut0 10 s) := by simp [rd, decLine, h1, show k < 60 by omega]
  refine callQ_v (PCall.arg (i_IsValidRecord (readE (cut0 10 s))) (by simp [readE])) ?_
  cases h3 : record (readE (cut0 10 s)) with
  | false =>
    have : rd k s = none := by rw [hrd]; simp [dec, h3]
    simp [r_i_readRecord_7, rdE, rdN, this, noRec]
  | true =>
  simp
  refine callQ_v (PCall.arg (i_encodeRecord k (readE (cut0 10 s)) (by omega) h3) (by simp [readE])) ?_
  simp
  refine ⟨by omega, fun h4 => ?_, fun h4 => ?_⟩
  · have : rd k s = none := by rw [hrd]; simp [dec, h3, h4]
    simp [r_i_readRecord_7, rdE, rdN, this, noRec]
  · have : rd k s = some (readE (cut0 10 s)) := by rw [hrd]; simp [dec, h3, h4]
    simp [r_i_readRecord_8, rdE, rdN, this, h4]
    rw [wrap64 (by omega) (by omega)]
    simp [readE]

theorem rd_open {n k : Nat} {r : List UInt8} (h : n + k = 60) : recs n k r = match rd k r with | some e => e :: recs (n - 1) (k + 1) (r.drop ((enc k e).length + 1)) | none => [] := by
  cases n with
  | zero => simp [recs, rd, show ¬ k < 60 by omega]
  | succ n =>
    have : rd k r = decLine k r := by simp [rd, show k < 60 by omega]
    rw [recs, this]
    cases decLine k r <;> rfl
/-- Where the records end. -/
def endsOf (l : List LogRecord) : List Int := (List.range (l.length + 1)).map fun j => ((encs 0 (l.take j)).length : Int)
theorem endsOf_snoc (l : List LogRecord) (e : LogRecord) : endsOf (l ++ [e]) = endsOf l ++ [((encs 0 (l ++ [e])).length : Int)] := by
  unfold endsOf
  rw [List.length_append, List.length_singleton, List.range_succ, List.map_append, List.map_singleton]
  congr 1
  · apply List.map_congr_left
    intro j hj
    rw [List.mem_range] at hj
    rw [List.take_append_of_le_length (by omega)]
  · rw [List.take_of_length_le (by simp)]
theorem endsOf_len (l : List LogRecord) : (endsOf l).length = l.length + 1 := by simp [endsOf]
theorem encs_snoc (l : List LogRecord) (e : LogRecord) : (encs 0 (l ++ [e])).length = (encs 0 l).length + ((enc l.length e).length + 1) := by
  rw [encs_append]; simp [encs]

/-- So far l has been read of s; r is left. -/
structure Part (s : List UInt8) (l : List LogRecord) (r : List UInt8) : Prop where
  len : l.length ≤ 60
  text : s = encs 0 l ++ r
  all : openL s = l ++ recs (60 - l.length) l.length r
theorem Part.zero (s : List UInt8) : Part s [] s := ⟨by simp, by simp [encs], by simp [openL]⟩
theorem Part.next {s : List UInt8} {l : List LogRecord} {r : List UInt8} {e : LogRecord} (h : Part s l r) (he : rd l.length r = some e) : Part s (l ++ [e]) (r.drop ((enc l.length e).length + 1)) := by
  have hk : l.length < 60 := by
    unfold rd at he
    split at he
    · assumption
    · cases he
  have hd : decLine l.length r = some e := by simpa [rd, hk] using he
  obtain ⟨_, r', rfl⟩ := decLine_iff.1 hd
  refine ⟨by simp; omega, ?_, ?_⟩
  · rw [drop_line, encs_append]
    conv => lhs; rw [h.text]
    simp [encs]
  · have h2 := h.all
    rw [rd_open (by have := h.len; omega), he] at h2
    simp only at h2
    rw [h2]
    simp [show 60 - l.length - 1 = 60 - (l.length + 1) by omega]
theorem Part.done {s : List UInt8} {l : List LogRecord} {r : List UInt8} (h : Part s l r) (he : rd l.length r = none) : openL s = l := by
  have h2 := h.all
  rw [rd_open (by have := h.len; omega), he] at h2
  simpa using h2
theorem Part.at_ {s : List UInt8} {l : List LogRecord} {r : List UInt8} (h : Part s l r) : s.drop (encs 0 l).length = r ∧ (encs 0 l).length ≤ s.length := by
  have := h.text
  constructor
  · conv => lhs; arg 2; rw [this]
    exact List.drop_left
  · conv => rhs; rw [this]
    simp
theorem rd_len {k : Nat} {r : List UInt8} {e : LogRecord} (h : rd k r = some e) : (enc k e).length + 1 ≤ r.length := by
  have hd : decLine k r = some e := by
    unfold rd at h
    split at h
    · exact h
    · cases h
  obtain ⟨_, r', rfl⟩ := decLine_iff.1 hd
  simp

theorem i_readRecords (s : List UInt8) (hs : s.length ≤ 4000000) : PCall Tryz.prog n_i_readRecords [S s] (.tup [.own 2 ((openL s).map eLogRecord), .own 1 (ints (endsOf (openL s)))]) := by
  refine PCall.of fn_i_readRecords (by simp) ?_
  simp [c_i_readRecords, r_i_readRecords_0, r_i_readRecords_1, l_i_readRecords_8]
  refine loopK (fun l : List LogRecord => ⟨[(0, S s), (4, .sl 10 0 l.length), (5, .sl 11 0 (l.length + 1)), (6, I (encs 0 l).length)], [(10, ⟨2, l.map eLogRecord⟩), (11, ⟨1, ints (endsOf l)⟩)], []⟩) (fun l => 60 - l.length)
    (fun l => Part s l (s.drop (encs 0 l).length)) [] (Wk.list rfl (by simp [encs]) (by simp [endsOf, encs])) ?_ ?_
  · simpa [encs] using Part.zero s
  intro l hp K hN hR hE
  have h60 := hp.len
  have hat := hp.at_.2
  have hdl : (s.drop (encs 0 l).length).length = s.length - (encs 0 l).length := List.length_drop
  simp [r_i_readRecords_2]
  refine ⟨by omega, ?_⟩
  refine callQ_of (PCall.arg (i_readRecord (s.drop (encs 0 l).length) l.length h60 (by omega)) (by simp; exact List.take_of_length_le (by omega))) rfl (.inl (by simp)) (by simp) ?_
  simp [r_i_readRecords_3]
  refine ⟨fun h => ?_, fun h => ?_⟩
  · have ho := hp.done h
    simp [r_i_readRecords_4]
    refine hR _ ?_
    simp [ho, endsOf_len]
  · obtain ⟨e, he⟩ := Option.isSome_iff_exists.1 h
    have hn := hp.next he
    have hrl := rd_len he
    have hE : rdE l.length (s.drop (encs 0 l).length) = e := by simp [rdE, he]
    have hN' : rdN l.length (s.drop (encs 0 l).length) = (enc l.length e).length + 1 := by simp [rdN, he]
    rw [hE, hN']
    have hlen := encs_snoc l e
    have hdr : (s.drop (encs 0 l).length).drop ((enc l.length e).length + 1) = s.drop (encs 0 (l ++ [e])).length := by rw [List.drop_drop, hlen]
    rw [hdr] at hn
    have hn60 := hn.len
    simp [r_i_readRecords_5]
    rw [wrap64 (by omega) (by omega)]
    simp [r_i_readRecords_6]
    refine ⟨by unfold lenBound; omega, ?_⟩
    simp [r_i_readRecords_7, endsOf_len]
    refine ⟨by unfold lenBound; omega, ?_⟩
    refine hN (l ++ [e]) _ (by simp at hn60 ⊢; omega) hn (Wk.trans (Wk.ren 32 10 (by decide) (by simp)) (Wk.trans (Wk.ren 36 11 (by decide) ?_) (Wk.list rfl ?_ ?_)))
    · simp [AS.ren, ren, reN, renB]
    · simp [AS.ren, ren, reN, hlen]
    · simp [AS.ren, ren, reN, renB, endsOf_snoc, endsOf_len, hlen]
      exact List.take_of_length_le (by simp [endsOf_len])

theorem s_l27Open (s : List UInt8) (hs : s.length ≤ 4000000) : PCall Tryz.prog n_s_l27Open [S s] (.tup [.own 2 ((openL s).map eLogRecord), I (openN s)]) := by
  refine PCall.of fn_s_l27Open (by simp) ?_
  simp [c_s_l27Open, r_s_l27Open_0, r_s_l27Open_1, r_s_l27Open_2, l_s_l27Open_9]
  refine loopK (fun l : List LogRecord => ⟨[(0, S s), (4, .sl 9 0 l.length), (5, I (encs 0 l).length)], [(9, ⟨2, l.map eLogRecord⟩)], []⟩) (fun l => 60 - l.length)
    (fun l => Part s l (s.drop (encs 0 l).length)) [] (Wk.list rfl (by simp [encs]) (by simp)) ?_ ?_
  · simpa [encs] using Part.zero s
  intro l hp K hN hR hE
  have h60 := hp.len
  have hat := hp.at_.2
  have hdl : (s.drop (encs 0 l).length).length = s.length - (encs 0 l).length := List.length_drop
  have hex : rd l.length (s.drop (encs 0 l).length) = none → openL s = l ∧ openN s = (encs 0 l).length := fun h => by
    have := hp.done h
    exact ⟨this, by unfold openN; rw [this]⟩
  simp [r_s_l27Open_3]
  refine ⟨fun hlt => ⟨fun hk => ?_, fun hk => ?_⟩, fun hge => ?_⟩
  · obtain ⟨ps, hps, hsp⟩ := split_res (s.drop (encs 0 l).length) 10 (by omega)
    have hcl := cut0_le 10 (s.drop (encs 0 l).length)
    have hpl := parts_len (c := 10) (s.drop (encs 0 l).length)
    rw [hps, List.length_cons] at hpl
    simp [r_s_l27Open_4]
    refine ⟨by omega, ?_⟩
    refine callQ_of (PCall.arg hsp (by simp; exact List.take_of_length_le (by omega))) rfl (.inl (by simp)) (by simp) ?_
    simp [r_s_l27Open_5]
    refine callQ_of (PCall.arg (s_l27Read (cut0 10 (s.drop (encs 0 l).length)) l.length (by omega) (by omega)) (by simp)) rfl (.inl (by simp)) (by simp) ?_
    simp
    by_cases hm : (10 : UInt8) ∈ s.drop (encs 0 l).length
    rotate_left
    · have hx := hex (by simp [rd, decLine, hm])
      have hp0 : ¬ 2 ≤ ps.length + 1 := fun h => hm (hpl.1 h)
      simp [r_s_l27Open_6, show (ps.length : Int) + 1 < 2 by omega]
      refine hE _ _ ?_
      simp only [blockK_exit]
      simp [r_s_l27Open_10, hx.1, hx.2]
    have hp0 := hpl.2 hm
    have hrd : rd l.length (s.drop (encs 0 l).length) = dec l.length (cut0 10 (s.drop (encs 0 l).length)) := by simp [rd, decLine, hm, show l.length < 60 by omega]
    simp [r_s_l27Open_6, show ¬ (ps.length : Int) + 1 < 2 by omega]
    refine ⟨fun h => ?_, fun h => ?_⟩
    · have hx := hex (by rw [hrd]; exact h)
      refine hE _ _ ?_
      simp only [blockK_exit]
      simp [r_s_l27Open_10, hx.1, hx.2]
    · obtain ⟨e, he⟩ := Option.isSome_iff_exists.1 h
      have he' : rd l.length (s.drop (encs 0 l).length) = some e := by rw [hrd]; exact he
      have hn := hp.next he'
      have hrl := rd_len he'
      have hlen := encs_snoc l e
      have hE' := specR_dec he
      have hline := (dec_iff.1 he).2
      have hdr : (s.drop (encs 0 l).length).drop ((enc l.length e).length + 1) = s.drop (encs 0 (l ++ [e])).length := by rw [List.drop_drop, hlen]
      rw [hdr] at hn
      rw [hE', ← hline]
      simp [r_s_l27Open_7]
      refine ⟨by unfold lenBound; omega, ?_⟩
      simp [r_s_l27Open_8]
      rw [wrap64 (n := ((encs 0 l).length : Int) + ((enc l.length e).length : Int)) (by omega) (by omega), wrap64 (by omega) (by omega)]
      refine hN (l ++ [e]) _ (by simp; omega) hn (Wk.trans (Wk.ren 42 9 (by decide) ?_) (Wk.list rfl ?_ ?_))
      · simp
      · simp [AS.ren, ren, reN, hlen]
        omega
      · simp [AS.ren, ren, reN, renB]
  · have hx := hex (by simp [rd, show ¬ l.length < 60 by omega])
    refine hE _ _ ?_
    simp only [blockK_exit]
    simp [r_s_l27Open_10, hx.1, hx.2]
  · have hx := hex (by rw [List.drop_of_length_le (by omega)]; simp [rd, decLine])
    refine hE _ _ ?_
    simp only [blockK_exit]
    simp [r_s_l27Open_10, hx.1, hx.2]
end Go.Proofs.YtbeoijlggphklaaGreatDoor

/- Logs: the test, recovery, synchronizing, appending, the records; in the program and in the reference. -/
set_option linter.unusedVariables false
set_option linter.unusedSimpArgs false
namespace Go.Proofs.YtbeoijlggphklaaGreatDoor
open Go.Abs

abbrev eLog (l : Log) : V := .agg [S l.durable, S l.pending, I l.count]
/-- Small enough to be handed over by a law. -/
def fits (l : Log) : Prop := l.durable.length + l.pending.length ≤ 1048576

theorem s_l27Log (l : Log) (hf : fits l) : PCall Tryz.prog n_s_l27Log [eLog l] (B (logOk l)) := by
  unfold fits at hf
  have hb := openN_bound (l.durable ++ l.pending)
  refine PCall.of fn_s_l27Log (by simp) ?_
  simp [c_s_l27Log, r_s_l27Log_0, r_s_l27Log_1]
  rw [wrap64 (by omega) (by omega)]
  refine ⟨fun h => ?_, fun h => ?_⟩
  · have : logOk l = false := by
      have : ¬ openN (l.durable ++ l.pending) = l.durable.length + l.pending.length := by omega
      simp only [logOk, this, decide_false, Bool.false_and]
    simp [r_s_l27Log_2, this]
  · simp [r_s_l27Log_3]
    refine ⟨by omega, ?_⟩
    refine callQ_of (PCall.arg (s_l27Open (l.durable ++ l.pending) (by rw [List.length_append]; omega)) (by simp)) rfl (.inl (by simp)) (by simp) ?_
    simp [r_s_l27Log_4]
    refine callQ_of (PCall.arg (s_l27Open l.durable (by omega)) (by simp)) rfl (.inl (by simp)) (by simp) ?_
    simp [r_s_l27Log_5]
    rw [wrap64 (by omega) (by omega)]
    refine ⟨fun h1 => ⟨fun h2 => ?_, fun h2 => ?_⟩, fun h1 => ?_⟩
    · have h1' : openN (l.durable ++ l.pending) = l.durable.length + l.pending.length := by omega
      have h2' : openN l.durable = l.durable.length := by omega
      rw [Bool.eq_iff_iff]
      simp [logOk, h1', h2']
    · have h2' : ¬ openN l.durable = l.durable.length := by omega
      simp [logOk, h2']
    · have h1' : ¬ openN (l.durable ++ l.pending) = l.durable.length + l.pending.length := by omega
      simp [logOk, h1']
theorem endsOf_get {l : List LogRecord} {j : Nat} (h : j < (endsOf l).length) : (endsOf l)[j] = ((encs 0 (l.take j)).length : Int) := by
  simp only [endsOf, List.getElem_map, List.getElem_range]
theorem i_IsValidLog (l : Log) (hf : fits l) : PCall Tryz.prog n_i_IsValidLog [eLog l] (B (logOk l)) := by
  unfold fits at hf
  refine PCall.of fn_i_IsValidLog (by simp) ?_
  simp [c_i_IsValidLog, r_i_IsValidLog_0, r_i_IsValidLog_1]
  refine ⟨by omega, ?_⟩
  simp [r_i_IsValidLog_2]
  obtain ⟨L, hL⟩ : ∃ L, openL (l.durable ++ l.pending) = L := ⟨_, rfl⟩
  have hr := i_readRecords (l.durable ++ l.pending) (by rw [List.length_append]; omega)
  rw [hL] at hr
  refine callQ_of (PCall.arg hr (by simp)) rfl (.inl (by simp)) (by simp) ?_
  have hel := endsOf_len L
  have heg := endsOf_get (l := L) (j := L.length) (by omega)
  rw [List.take_length] at heg
  have hL60 : L.length ≤ 60 := by rw [← hL]; exact recs_len 60 0 _
  have hN : (encs 0 L).length = openN (l.durable ++ l.pending) := by unfold openN; rw [hL]
  rw [hN] at heg
  have hlt : L.length < (endsOf L).length := by omega
  simp [r_i_IsValidLog_3, hel, hlt, heg]
  refine ⟨by omega, fun h1 => ⟨fun h2 => ?_, fun h2 => ?_⟩, fun h1 => ?_⟩
  · have h2' : ¬ ((openL (l.durable ++ l.pending)).length : Int) = l.count := by rw [hL]; exact h2
    have : logOk l = false := by simp only [logOk, h2', decide_false, Bool.and_false]
    simp [r_i_IsValidLog_4, this]
  · have h1' : openN (l.durable ++ l.pending) = l.durable.length + l.pending.length := by omega
    have h1'' : openN (l.durable ++ l.pending) = (l.durable ++ l.pending).length := by rw [List.length_append]; exact h1'
    have h2' : ((openL (l.durable ++ l.pending)).length : Int) = l.count := by rw [hL]; exact h2
    have hpre := open_prefix h1''
    rw [hL] at hpre
    have hok : logOk l = decide (openN l.durable = l.durable.length) := by simp only [logOk, h1', h2', decide_true, Bool.true_and, Bool.and_true]
    simp [r_i_IsValidLog_5, l_i_IsValidLog_11, hel]
    refine loopK (fun i : Nat => ⟨[(1, .ref 1 0 0), (33, .sl 1015 0 (L.length + 1)), (34, I (L.length + 1)), (35, I i)], [(1, ⟨3, [eLog l]⟩), (1015, ⟨1, ints (endsOf L)⟩)], []⟩) (fun i => L.length + 1 - i) (fun i => i ≤ L.length + 1 ∧ ∀ j, j < i → ¬ (encs 0 (L.take j)).length = l.durable.length) 0 (Wk.list rfl (by simp) (by simp)) (by simp) ?_
    rintro i ⟨hi, hj⟩ K hN hR hE
    simp [r_i_IsValidLog_6]
    refine ⟨fun hlt => ?_, fun hge => ?_⟩
    · have hie : i < (endsOf L).length := by omega
      have hg := endsOf_get hie
      simp [r_i_IsValidLog_7, hie, hg]
      refine ⟨by omega, ?_⟩
      simp [r_i_IsValidLog_8]
      refine ⟨fun h => ?_, fun h => ?_⟩
      · have : logOk l = true := by rw [hok, decide_eq_true_iff, hpre]; exact ⟨i, by omega, by omega⟩
        simp [r_i_IsValidLog_9]
        refine hR _ ?_
        simp [this]
      · simp [r_i_IsValidLog_10]
        rw [wrap64 (by omega) (by omega)]
        refine hN (i + 1) _ (by omega) ⟨by omega, fun j hji => ?_⟩ (Wk.list rfl (by simp) (by simp))
        by_cases e : j = i
        · subst e; omega
        · exact hj j (by omega)
    · refine hE _ _ ?_
      have : logOk l = false := by
        rw [hok, decide_eq_false_iff_not, hpre]
        rintro ⟨j, h1, h2⟩
        exact hj j (by omega) h2
      simp only [blockK_exit]
      simp [r_i_IsValidLog_12, this]
  · have h1' : ¬ openN (l.durable ++ l.pending) = l.durable.length + l.pending.length := by omega
    have : logOk l = false := by simp only [logOk, h1', decide_false, Bool.false_and]
    simp [r_i_IsValidLog_4, this]

/-! ### Recovery -/
def recoverL (s : List UInt8) : Log := if s.length ≤ 30000 then ⟨s.take (openN s), [], (openL s).length⟩ else ⟨[], [], 0⟩
def recoverN (s : List UInt8) : Int := if s.length ≤ 30000 then openN s else 0
/-! ### Synchronizing, appending, the records -/
def syncL (l : Log) : Log := if logOk l then ⟨l.durable ++ l.pending, [], l.count⟩ else ⟨[], [], 0⟩
theorem logOk_count {l : Log} (h : logOk l = true) : 0 ≤ l.count ∧ l.count ≤ 60 := by
  simp only [logOk, Bool.and_eq_true, decide_eq_true_iff] at h
  have := recs_len 60 0 (l.durable ++ l.pending)
  have h2 := h.2.2
  unfold openL at h2
  omega
def appendL (l : Log) (e : LogRecord) : Log := if logOk l && record e && !decide (l.count = 60) then ⟨l.durable, l.pending ++ (enc l.count.toNat e ++ [10]), l.count + 1⟩ else l
def appendN (l : Log) (e : LogRecord) : Int := if logOk l && record e then if l.count = 60 then 2 else 0 else 1
def recordsL (l : Log) : List LogRecord := if logOk l then openL (l.durable ++ l.pending) else []
theorem recordsL_len (l : Log) : (recordsL l).length ≤ 60 := by
  unfold recordsL
  split
  · exact recs_len 60 0 _
  · simp
end Go.Proofs.YtbeoijlggphklaaGreatDoor

/- The law functions: FnExactRecoverLog, FnExactIsValidLog, FnExactSyncLog, FnExactAppendRecord. -/
set_option linter.unusedVariables false
set_option linter.unusedSimpArgs false
namespace Go.Proofs.YtbeoijlggphklaaGreatDoor
open Go.Abs

theorem w_szLog (l : Log) (left : Int) (h0 : 0 ≤ left) (h1 : left ≤ 1048576) : PCall Tryz.prog n_w_szLog [eLog l, I left] (I (rest left (l.durable.length + l.pending.length))) := by
  refine PCall.ofL fn_w_szLog (by simp) fun hl => ?_
  simp at hl
  obtain ⟨hc, hr⟩ := hl
  simp [c_w_szLog, r_w_szLog_0, r_w_szLog_1]
  rw [wrap64 (by omega) (by omega)]
  simp [r_w_szLog_2]
  refine ⟨fun h => ?_, fun h => ?_⟩
  · simp [r_w_szLog_3, rest]
    omega
  · simp [r_w_szLog_4]
    rw [wrap64 (by omega) (by omega)]
    simp [r_w_szLog_5, r_w_szLog_6, r_w_szLog_7, rest]
    constructor <;> intros <;> omega
theorem w_toLog (l : Log) : PCall Tryz.prog n_w_toLog [eLog l] (eLog l) := by
  refine PCall.of fn_w_toLog (by simp) ?_
  simp [c_w_toLog, r_w_toLog_0, r_w_toLog_1, r_w_toLog_2, r_w_toLog_3, r_w_toLog_4, r_w_toLog_5]
theorem fits_of {l : Log} (h : 0 ≤ rest 1048576 (l.durable.length + l.pending.length)) : fits l := by
  have := rest_nonneg (left := 1048576) (n := l.durable.length + l.pending.length) (by omega)
  unfold fits; omega

end Go.Proofs.YtbeoijlggphklaaGreatDoor

/- IsValidConsole: program, reference, law. -/
set_option linter.unusedVariables false
set_option linter.unusedSimpArgs false
namespace Go.Proofs.YtbeoijlggphklaaGreatDoor
open Go.Abs

def consoleOk (c : Console) : Bool := register c.grants && logOk c.log
theorem i_IsValidConsole (c : Console) (hf : fits c.log) : PCall Tryz.prog n_i_IsValidConsole [eConsole c] (B (consoleOk c)) := by
  refine PCall.of fn_i_IsValidConsole (by simp) ?_
  simp [c_i_IsValidConsole, r_i_IsValidConsole_0, r_i_IsValidConsole_1]
  refine callQ_v (PCall.arg (i_IsValidRegister c.grants) (by simp)) ?_
  cases h : register c.grants with
  | false => simp [consoleOk, h]
  | true =>
    simp
    refine callQ_v (PCall.arg (i_IsValidLog c.log hf) (by simp)) ?_
    simp [consoleOk, h]
theorem s_l28Good (c : Console) (hf : fits c.log) : PCall Tryz.prog n_s_l28Good [eConsole c] (B (consoleOk c)) := by
  refine PCall.of fn_s_l28Good (by simp) ?_
  simp [c_s_l28Good, r_s_l28Good_0, r_s_l28Good_1]
  refine callQ_v (PCall.arg (s_l16Good c.grants) (by simp)) ?_
  cases h : register c.grants with
  | false => simp [consoleOk, h]
  | true =>
    simp
    refine callQ_v (PCall.arg (s_l27Log c.log hf) (by simp)) ?_
    simp [consoleOk, h]
theorem w_toConsole (c : Console) (hl : c.grants.length ≤ 1048576) : PCall Tryz.prog n_w_toConsole [eConsole c] (oConsole c) := by
  refine PCall.of fn_w_toConsole (by simp) ?_
  simp [c_w_toConsole, r_w_toConsole_0, r_w_toConsole_1, r_w_toConsole_2]
  refine callQ_of (PCall.arg (w_toRegister c.grants hl) (by simp)) rfl (.inl (by simp)) (by simp) ?_
  simp [r_w_toConsole_3]
  refine callQ_of (PCall.arg (w_toLog c.log) (by simp)) rfl (.inl (by simp)) (by simp) ?_
  simp [r_w_toConsole_4]
def szC (c : Console) : Nat := szG c.grants + (c.log.durable.length + c.log.pending.length)
theorem w_szConsole (c : Console) (left : Int) (h0 : 0 ≤ left) (h1 : left ≤ 1048576) : PCall Tryz.prog n_w_szConsole [eConsole c, I left] (I (rest left (szC c))) := by
  refine PCall.of fn_w_szConsole (by simp) ?_
  simp [c_w_szConsole, r_w_szConsole_0, r_w_szConsole_1]
  refine callQ_v (PCall.arg (w_szRegister c.grants left h0 h1) (by simp)) ?_
  simp [r_w_szConsole_2]
  refine ⟨fun hneg => ?_, fun hge => ?_⟩
  · simp [r_w_szConsole_3]
    unfold rest szC at *
    split at hneg <;> split <;> omega
  · have hs := rest_nonneg (left := left) (n := szG c.grants) (by omega)
    have he : rest left (szG c.grants) = left - szG c.grants := by unfold rest; rw [if_neg (by omega)]
    rw [he]
    simp [r_w_szConsole_4]
    refine callQ_v (PCall.arg (w_szLog c.log (left - szG c.grants) (by omega) (by omega)) (by simp)) ?_
    simp [r_w_szConsole_5, r_w_szConsole_6, r_w_szConsole_7]
    unfold rest szC
    constructor
    · intro h
      split at h <;> split <;> omega
    · intro h
      split at h <;> split <;> omega
end Go.Proofs.YtbeoijlggphklaaGreatDoor

/- The compact code of the functions, and that it is theirs: written by a program of this claim. -/
namespace Go.Proofs.YtbeoijlggphklaaGreatDoor
open Go.Abs
set_option maxRecDepth 100000
def r_i_Arms_pieces_0 : List CO := [⟨none, (some 1), (.box 15 (.t 0))⟩, ⟨none, (some 2), (.box 5 (.k (.agg [(.v (.string (bs []))), (.v (.string (bs []))), (.v (.string (bs []))), (.v (.string (bs []))), (.v (.bool false))])))⟩]
def r_i_Arms_pieces_1 : List CO := [⟨none, (some 4), (.faddr 0 (.t 1))⟩, ⟨none, (some 5), (.ld true 4 (.t 4))⟩, ⟨none, (some 6), (.call n_i_Field_text [(.t 5)])⟩, ⟨none, (some 7), (.faddr 4 (.t 1))⟩, ⟨none, (some 8), (.ld false 1 (.t 7))⟩, ⟨none, (some 9), (.bin .eql .none (.t 8) (.k (.v (.int .i64 (7)))))⟩, ⟨none, (some 10), (.build (.agg [(.v (.string (bs []))), (.v (.string (bs []))), (.v (.string (bs []))), (.v (.string (bs []))), (.v (.bool false))]) [(0, (1, (.t 6))), (4, (1, (.t 9)))])⟩, ⟨none, (some 3), (.box 5 (.k (.agg [(.v (.string (bs []))), (.v (.string (bs []))), (.v (.string (bs []))), (.v (.string (bs []))), (.v (.bool false))])))⟩, ⟨none, none, (.st 5 (.t 3) (.t 10))⟩]
def p_i_Arms_pieces_1 : List (List Nat) := [[], [0], [0, 1], [], [3], [3, 4], [0, 1, 2, 3, 4, 5], [], [0, 1, 2, 3, 4, 5, 6, 7]]
def r_i_Arms_pieces_2 : List CO := [⟨none, (some 11), (.faddr 4 (.t 1))⟩, ⟨none, (some 12), (.ld false 1 (.t 11))⟩, ⟨none, (some 13), (.bin .neq .none (.t 12) (.k (.v (.int .i64 (0)))))⟩]
def r_i_Arms_pieces_3 : List CO := [⟨none, (some 14), (.faddr 4 (.t 1))⟩, ⟨none, (some 15), (.ld false 1 (.t 14))⟩, ⟨none, (some 16), (.faddr 5 (.t 1))⟩, ⟨none, (some 17), (.ld false 1 (.t 16))⟩, ⟨none, (some 18), (.call n_i_ordinaryStart [(.t 15), (.t 17)])⟩, ⟨none, (some 19), (.bin .add .none (.t 18) (.k (.v (.string (bs [32])))))⟩, ⟨none, (some 20), (.faddr 6 (.t 1))⟩, ⟨none, (some 21), (.ld false 1 (.t 20))⟩, ⟨none, (some 22), (.call n_i_tincture [(.t 21)])⟩, ⟨none, (some 23), (.bin .add .none (.t 19) (.t 22))⟩, ⟨none, (some 24), (.faddr 1 (.t 3))⟩, ⟨none, none, (.st 1 (.t 24) (.t 23))⟩]
def p_i_Arms_pieces_3 : List (List Nat) := [[], [0], [], [2], [0, 1, 2, 3], [0, 1, 2, 3, 4], [], [6], [0, 1, 2, 3, 4, 6, 7], [0, 1, 2, 3, 4, 5, 6, 7, 8], [0, 1, 2, 3, 4, 5, 6, 7, 8, 9], [0, 1, 2, 3, 4, 5, 6, 7, 8, 9, 10]]
def r_i_Arms_pieces_4 : List CO := [⟨none, (some 25), (.faddr 7 (.t 1))⟩, ⟨none, (some 26), (.ld true 4 (.t 25))⟩, ⟨none, (some 27), (.build (.agg [(.v (.int .i64 (0))), (.v (.int .i64 (0))), (.v (.int .i64 (0))), (.v (.int .i64 (0)))]) [])⟩, ⟨none, (some 28), (.bin .neq (.struct [EK.int, EK.int, EK.int, EK.int]) (.t 26) (.t 27))⟩]
def r_i_Arms_pieces_5 : List CO := [⟨none, (some 29), (.faddr 7 (.t 1))⟩, ⟨none, (some 30), (.ld true 4 (.t 29))⟩, ⟨none, (some 31), (.call n_i_Group_text [(.t 30)])⟩, ⟨none, (some 32), (.faddr 2 (.t 3))⟩, ⟨none, none, (.st 1 (.t 32) (.t 31))⟩]
def r_i_Arms_pieces_6 : List CO := [⟨none, (some 33), (.faddr 11 (.t 1))⟩, ⟨none, (some 34), (.ld true 4 (.t 33))⟩, ⟨none, (some 35), (.build (.agg [(.v (.int .i64 (0))), (.v (.int .i64 (0))), (.v (.int .i64 (0))), (.v (.int .i64 (0)))]) [])⟩, ⟨none, (some 36), (.bin .neq (.struct [EK.int, EK.int, EK.int, EK.int]) (.t 34) (.t 35))⟩]
def r_i_Arms_pieces_7 : List CO := [⟨none, (some 37), (.faddr 11 (.t 1))⟩, ⟨none, (some 38), (.ld true 4 (.t 37))⟩, ⟨none, (some 39), (.call n_i_Group_text [(.t 38)])⟩, ⟨none, (some 40), (.faddr 3 (.t 3))⟩, ⟨none, none, (.st 1 (.t 40) (.t 39))⟩]
def r_i_Arms_pieces_8 : List CO := [⟨none, (some 41), (.ld true 5 (.t 3))⟩, ⟨none, none, (.st 5 (.t 2) (.t 41))⟩]
/-- (loop.example/g00884/impl.Arms).pieces -/
def c_i_Arms_pieces : C := (.seq (.reg r_i_Arms_pieces_0 [1, 2]) (.seq (.regD r_i_Arms_pieces_1 p_i_Arms_pieces_1 [1, 2, 3]) (.seq (.seq (.wk (.reg r_i_Arms_pieces_2 [1, 2, 3, 13])) (.cond (.t 13) (.regD r_i_Arms_pieces_3 p_i_Arms_pieces_3 [1, 2, 3]) .skip)) (.seq (.seq (.wk (.reg r_i_Arms_pieces_4 [1, 2, 3, 28])) (.cond (.t 28) (.reg r_i_Arms_pieces_5 [1, 2, 3]) .skip)) (.seq (.seq (.wk (.reg r_i_Arms_pieces_6 [1, 2, 3, 36])) (.cond (.t 36) (.reg r_i_Arms_pieces_7 [2, 3]) .skip)) (.seq (.wk (.reg r_i_Arms_pieces_8 [2])) .ret))))))
def k_i_Arms_pieces : Nat → List Nat
  | 0 => [1, 2]
  | 1 => [1, 2, 3]
  | 2 => [999999, 1, 2, 3, 13]
  | 3 => [1, 2, 3]
  | 4 => [999999, 1, 2, 3, 28]
  | 5 => [1, 2, 3]
  | 6 => [999999, 1, 2, 3, 36]
  | 7 => [2, 3]
  | 8 => [999999, 2]
  | _ => []
theorem fn_i_Arms_pieces : FnC Tryz.prog n_i_Arms_pieces c_i_Arms_pieces [(.cell 2 true 5)] 42 :=
  ⟨Tryz.f146, _, k_i_Arms_pieces, Tryz.func146, rfl, by kernel_rfl, by kernel_rfl, by kernel_rfl, rfl⟩
def r_i_Arms_text_0 : List CO := [⟨none, (some 1), (.box 15 (.t 0))⟩, ⟨none, (some 2), (.mv (.k (.v (.string (bs [])))))⟩]
def r_i_Arms_text_1 : List CO := [⟨none, (some 3), (.ld true 15 (.t 1))⟩, ⟨none, (some 4), (.call n_i_Arms_pieces [(.t 3)])⟩, ⟨none, (some 5), (.call n_i_pieces_joined [(.t 4)])⟩, ⟨none, (some 2), (.mv (.t 5))⟩]
/-- (loop.example/g00884/impl.Arms).text -/
def c_i_Arms_text : C := (.seq (.reg r_i_Arms_text_0 [1]) (.seq (.reg r_i_Arms_text_1 [2]) .ret))
def k_i_Arms_text : Nat → List Nat
  | 0 => [1]
  | 1 => [2]
  | _ => []
theorem fn_i_Arms_text : FnC Tryz.prog n_i_Arms_text c_i_Arms_text [(.tmp 2)] 6 :=
  ⟨Tryz.f102, _, k_i_Arms_text, Tryz.func102, rfl, by kernel_rfl, by kernel_rfl, by kernel_rfl, rfl⟩
end Go.Proofs.YtbeoijlggphklaaGreatDoor

/- The compact code of the functions, and that it is theirs: written by a program of this claim. -/
namespace Go.Proofs.YtbeoijlggphklaaGreatDoor
open Go.Abs
set_option maxRecDepth 100000
def r_i_pieces_joined_0 : List CO := [⟨none, (some 1), (.box 5 (.t 0))⟩, ⟨none, (some 2), (.mv (.k (.v (.string (bs [])))))⟩]
def r_i_pieces_joined_1 : List CO := [⟨none, (some 4), (.faddr 0 (.t 1))⟩, ⟨none, (some 5), (.ld false 1 (.t 4))⟩, ⟨none, (some 3), (.mv (.t 5))⟩]
def r_i_pieces_joined_2 : List CO := [⟨none, (some 7), (.faddr 1 (.t 1))⟩, ⟨none, (some 8), (.ld false 1 (.t 7))⟩, ⟨none, (some 9), (.bin .eql .none (.t 8) (.k (.v (.string (bs [])))))⟩, ⟨none, (some 10), (.mv (.t 9))⟩, ⟨(some (10, true)), (some 11), (.faddr 3 (.t 1))⟩, ⟨(some (10, true)), (some 12), (.ld false 1 (.t 11))⟩, ⟨(some (10, true)), (some 13), (.bin .eql .none (.t 12) (.k (.v (.string (bs [])))))⟩, ⟨none, (some 14), (.pick (.t 10) (.t 13) (.k (.v (.bool false))))⟩, ⟨none, (some 6), (.mv (.t 14))⟩]
def r_i_pieces_joined_3 : List CO := [⟨none, (some 15), (.mv (.t 3))⟩, ⟨none, (some 2), (.mv (.t 15))⟩]
def r_i_pieces_joined_4 : List CO := [⟨none, (some 17), (.faddr 1 (.t 1))⟩, ⟨none, (some 18), (.ld false 1 (.t 17))⟩, ⟨none, (some 19), (.bin .eql .none (.t 18) (.k (.v (.string (bs [])))))⟩, ⟨none, (some 16), (.mv (.t 19))⟩]
def r_i_pieces_joined_5 : List CO := [⟨none, (some 20), (.mv (.t 3))⟩, ⟨none, (some 21), (.bin .add .none (.t 20) (.k (.v (.string (bs [44, 32])))))⟩, ⟨none, (some 22), (.faddr 3 (.t 1))⟩, ⟨none, (some 23), (.ld false 1 (.t 22))⟩, ⟨none, (some 24), (.bin .add .none (.t 21) (.t 23))⟩, ⟨none, (some 2), (.mv (.t 24))⟩]
def r_i_pieces_joined_6 : List CO := [⟨none, (some 25), (.mv (.t 3))⟩, ⟨none, (some 26), (.faddr 1 (.t 1))⟩, ⟨none, (some 27), (.ld false 1 (.t 26))⟩, ⟨none, (some 28), (.bin .add .none (.k (.v (.string (bs [44, 32])))) (.t 27))⟩, ⟨none, (some 29), (.bin .add .none (.t 25) (.t 28))⟩, ⟨none, (some 3), (.mv (.t 29))⟩]
def r_i_pieces_joined_7 : List CO := [⟨none, (some 30), (.faddr 2 (.t 1))⟩, ⟨none, (some 31), (.ld false 1 (.t 30))⟩, ⟨none, (some 32), (.bin .neq .none (.t 31) (.k (.v (.string (bs [])))))⟩]
def r_i_pieces_joined_8 : List CO := [⟨none, (some 33), (.mv (.t 3))⟩, ⟨none, (some 34), (.faddr 2 (.t 1))⟩, ⟨none, (some 35), (.ld false 1 (.t 34))⟩, ⟨none, (some 36), (.bin .add .none (.k (.v (.string (bs [32, 99, 104, 97, 114, 103, 101, 100, 32, 119, 105, 116, 104, 32])))) (.t 35))⟩, ⟨none, (some 37), (.bin .add .none (.t 33) (.t 36))⟩, ⟨none, (some 3), (.mv (.t 37))⟩]
def r_i_pieces_joined_9 : List CO := [⟨none, (some 39), (.faddr 3 (.t 1))⟩, ⟨none, (some 40), (.ld false 1 (.t 39))⟩, ⟨none, (some 41), (.bin .eql .none (.t 40) (.k (.v (.string (bs [])))))⟩, ⟨none, (some 38), (.mv (.t 41))⟩]
def r_i_pieces_joined_10 : List CO := [⟨none, (some 42), (.mv (.t 3))⟩, ⟨none, (some 2), (.mv (.t 42))⟩]
def r_i_pieces_joined_11 : List CO := [⟨none, (some 44), (.faddr 4 (.t 1))⟩, ⟨none, (some 45), (.ld false 1 (.t 44))⟩, ⟨none, (some 43), (.mv (.t 45))⟩]
def r_i_pieces_joined_12 : List CO := [⟨none, (some 46), (.mv (.t 3))⟩, ⟨none, (some 47), (.bin .add .none (.t 46) (.k (.v (.string (bs [32, 97, 98, 111, 118, 101, 32])))))⟩, ⟨none, (some 48), (.faddr 3 (.t 1))⟩, ⟨none, (some 49), (.ld false 1 (.t 48))⟩, ⟨none, (some 50), (.bin .add .none (.t 47) (.t 49))⟩, ⟨none, (some 2), (.mv (.t 50))⟩]
def r_i_pieces_joined_13 : List CO := [⟨none, (some 51), (.mv (.t 3))⟩, ⟨none, (some 52), (.bin .add .none (.t 51) (.k (.v (.string (bs [32, 98, 101, 116, 119, 101, 101, 110, 32])))))⟩, ⟨none, (some 53), (.faddr 3 (.t 1))⟩, ⟨none, (some 54), (.ld false 1 (.t 53))⟩, ⟨none, (some 55), (.bin .add .none (.t 52) (.t 54))⟩, ⟨none, (some 2), (.mv (.t 55))⟩]
/-- (loop.example/g00884/impl.pieces).joined -/
def c_i_pieces_joined : C := (.seq (.reg r_i_pieces_joined_0 [1]) (.seq (.reg r_i_pieces_joined_1 [1, 3]) (.seq (.block 0 (.seq (.reg r_i_pieces_joined_2 [1, 3, 6]) (.cond (.t 6) (.seq (.reg r_i_pieces_joined_3 [2]) .ret) (.seq (.reg r_i_pieces_joined_4 [1, 3, 16]) (.cond (.t 16) (.seq (.reg r_i_pieces_joined_5 [2]) .ret) .skip))))) (.seq (.reg r_i_pieces_joined_6 [1, 3]) (.seq (.seq (.reg r_i_pieces_joined_7 [1, 3, 32]) (.cond (.t 32) (.reg r_i_pieces_joined_8 [1, 3]) .skip)) (.seq (.block 1 (.seq (.reg r_i_pieces_joined_9 [1, 3, 38]) (.cond (.t 38) (.seq (.reg r_i_pieces_joined_10 [2]) .ret) (.seq (.reg r_i_pieces_joined_11 [1, 3, 43]) (.cond (.t 43) (.seq (.reg r_i_pieces_joined_12 [2]) .ret) .skip))))) (.seq (.reg r_i_pieces_joined_13 [2]) .ret)))))))
def k_i_pieces_joined : Nat → List Nat
  | 0 => [1]
  | 1 => [1, 3]
  | 2 => [1, 3, 6]
  | 3 => [2]
  | 4 => [1, 3, 16]
  | 5 => [2]
  | 6 => [1, 3]
  | 7 => [1, 3, 32]
  | 8 => [1, 3]
  | 9 => [1, 3, 38]
  | 10 => [2]
  | 11 => [1, 3, 43]
  | 12 => [2]
  | 13 => [2]
  | _ => []
theorem fn_i_pieces_joined : FnC Tryz.prog n_i_pieces_joined c_i_pieces_joined [(.tmp 2)] 56 :=
  ⟨Tryz.f147, _, k_i_pieces_joined, Tryz.func147, rfl, by kernel_rfl, by kernel_rfl, by kernel_rfl, rfl⟩
end Go.Proofs.YtbeoijlggphklaaGreatDoor

/- The compact code of the functions, and that it is theirs: written by a program of this claim. -/
namespace Go.Proofs.YtbeoijlggphklaaGreatDoor
open Go.Abs
set_option maxRecDepth 100000
def r_i_Field_text_0 : List CO := [⟨none, (some 1), (.box 4 (.t 0))⟩, ⟨none, (some 2), (.mv (.k (.v (.string (bs [])))))⟩]
def r_i_Field_text_1 : List CO := [⟨none, (some 3), (.faddr 0 (.t 1))⟩, ⟨none, (some 4), (.ld false 1 (.t 3))⟩, ⟨none, (some 5), (.bin .eql .none (.t 4) (.k (.v (.int .i64 (0)))))⟩]
def r_i_Field_text_2 : List CO := [⟨none, (some 6), (.faddr 2 (.t 1))⟩, ⟨none, (some 7), (.ld false 1 (.t 6))⟩, ⟨none, (some 8), (.call n_i_tincture [(.t 7)])⟩, ⟨none, (some 2), (.mv (.t 8))⟩]
def r_i_Field_text_3 : List CO := [⟨none, (some 9), (.call n_i_divisionWords [])⟩, ⟨none, (some 10), (.faddr 0 (.t 1))⟩, ⟨none, (some 11), (.ld false 1 (.t 10))⟩, ⟨none, (some 12), (.bin .sub .none (.t 11) (.k (.v (.int .i64 (1)))))⟩, ⟨none, (some 13), (.iaddr 1 (.t 9) (.t 12))⟩, ⟨none, (some 14), (.ld false 1 (.t 13))⟩, ⟨none, (some 15), (.faddr 1 (.t 1))⟩, ⟨none, (some 16), (.ld false 1 (.t 15))⟩, ⟨none, (some 17), (.call n_i_withLine [(.t 14), (.t 16)])⟩, ⟨none, (some 18), (.bin .add .none (.t 17) (.k (.v (.string (bs [32])))))⟩, ⟨none, (some 19), (.faddr 2 (.t 1))⟩, ⟨none, (some 20), (.ld false 1 (.t 19))⟩, ⟨none, (some 21), (.call n_i_tincture [(.t 20)])⟩, ⟨none, (some 22), (.bin .add .none (.t 18) (.t 21))⟩, ⟨none, (some 23), (.bin .add .none (.t 22) (.k (.v (.string (bs [32, 97, 110, 100, 32])))))⟩, ⟨none, (some 24), (.faddr 3 (.t 1))⟩, ⟨none, (some 25), (.ld false 1 (.t 24))⟩, ⟨none, (some 26), (.call n_i_tincture [(.t 25)])⟩, ⟨none, (some 27), (.bin .add .none (.t 23) (.t 26))⟩, ⟨none, (some 2), (.mv (.t 27))⟩]
def p_i_Field_text_3 : List (List Nat) := [[], [], [1], [1, 2], [0, 1, 2, 3], [0, 1, 2, 3, 4], [], [6], [0, 1, 2, 3, 4, 5, 6, 7], [0, 1, 2, 3, 4, 5, 6, 7, 8], [], [10], [0, 1, 2, 3, 4, 5, 6, 7, 8, 10, 11], [0, 1, 2, 3, 4, 5, 6, 7, 8, 9, 10, 11, 12], [0, 1, 2, 3, 4, 5, 6, 7, 8, 9, 10, 11, 12, 13], [], [15], [0, 1, 2, 3, 4, 5, 6, 7, 8, 10, 11, 12, 15, 16], [0, 1, 2, 3, 4, 5, 6, 7, 8, 9, 10, 11, 12, 13, 14, 15, 16, 17], [0, 1, 2, 3, 4, 5, 6, 7, 8, 9, 10, 11, 12, 13, 14, 15, 16, 17, 18]]
/-- (loop.example/g00884/impl.Field).text -/
def c_i_Field_text : C := (.seq (.reg r_i_Field_text_0 [1]) (.seq (.seq (.reg r_i_Field_text_1 [1, 5]) (.cond (.t 5) (.seq (.reg r_i_Field_text_2 [2]) .ret) .skip)) (.seq (.regD r_i_Field_text_3 p_i_Field_text_3 [2]) .ret)))
def k_i_Field_text : Nat → List Nat
  | 0 => [1]
  | 1 => [1, 5]
  | 2 => [2]
  | 3 => [2]
  | _ => []
theorem fn_i_Field_text : FnC Tryz.prog n_i_Field_text c_i_Field_text [(.tmp 2)] 28 :=
  ⟨Tryz.f190, _, k_i_Field_text, Tryz.func190, rfl, by kernel_rfl, by kernel_rfl, by kernel_rfl, rfl⟩
def r_i_Group_text_0 : List CO := [⟨none, (some 1), (.box 4 (.t 0))⟩, ⟨none, (some 2), (.mv (.k (.v (.string (bs [])))))⟩]
def r_i_Group_text_1 : List CO := [⟨none, (some 4), (.faddr 0 (.t 1))⟩, ⟨none, (some 5), (.ld false 1 (.t 4))⟩, ⟨none, (some 6), (.faddr 1 (.t 1))⟩, ⟨none, (some 7), (.ld false 1 (.t 6))⟩, ⟨none, (some 8), (.call n_i_countWord [(.t 5), (.t 7)])⟩, ⟨none, (some 9), (.bin .add .none (.t 8) (.k (.v (.string (bs [32])))))⟩, ⟨none, (some 10), (.faddr 1 (.t 1))⟩, ⟨none, (some 11), (.ld false 1 (.t 10))⟩, ⟨none, (some 12), (.faddr 0 (.t 1))⟩, ⟨none, (some 13), (.ld false 1 (.t 12))⟩, ⟨none, (some 14), (.call n_i_kindWord [(.t 11), (.t 13)])⟩, ⟨none, (some 15), (.bin .add .none (.t 9) (.t 14))⟩, ⟨none, (some 3), (.mv (.t 15))⟩]
def p_i_Group_text_1 : List (List Nat) := [[], [0], [], [2], [0, 1, 2, 3], [0, 1, 2, 3, 4], [], [6], [], [8], [0, 1, 2, 3, 4, 6, 7, 8, 9], [0, 1, 2, 3, 4, 5, 6, 7, 8, 9, 10], [0, 1, 2, 3, 4, 5, 6, 7, 8, 9, 10, 11]]
def r_i_Group_text_2 : List CO := [⟨none, (some 16), (.faddr 2 (.t 1))⟩, ⟨none, (some 17), (.ld false 1 (.t 16))⟩, ⟨none, (some 18), (.bin .gtr .none (.t 17) (.k (.v (.int .i64 (0)))))⟩]
def r_i_Group_text_3 : List CO := [⟨none, (some 19), (.mv (.t 3))⟩, ⟨none, (some 20), (.faddr 1 (.t 1))⟩, ⟨none, (some 21), (.ld false 1 (.t 20))⟩, ⟨none, (some 22), (.call n_i_attitudes [(.t 21)])⟩, ⟨none, (some 23), (.faddr 2 (.t 1))⟩, ⟨none, (some 24), (.ld false 1 (.t 23))⟩, ⟨none, (some 25), (.bin .sub .none (.t 24) (.k (.v (.int .i64 (1)))))⟩, ⟨none, (some 26), (.iaddr 1 (.t 22) (.t 25))⟩, ⟨none, (some 27), (.ld false 1 (.t 26))⟩, ⟨none, (some 28), (.bin .add .none (.k (.v (.string (bs [32])))) (.t 27))⟩, ⟨none, (some 29), (.bin .add .none (.t 19) (.t 28))⟩, ⟨none, (some 3), (.mv (.t 29))⟩]
def p_i_Group_text_3 : List (List Nat) := [[], [], [1], [1, 2], [], [4], [4, 5], [1, 2, 3, 4, 5, 6], [1, 2, 3, 4, 5, 6, 7], [1, 2, 3, 4, 5, 6, 7, 8], [0, 1, 2, 3, 4, 5, 6, 7, 8, 9], [0, 1, 2, 3, 4, 5, 6, 7, 8, 9, 10]]
def r_i_Group_text_4 : List CO := [⟨none, (some 30), (.mv (.t 3))⟩, ⟨none, (some 31), (.bin .add .none (.t 30) (.k (.v (.string (bs [32])))))⟩, ⟨none, (some 32), (.faddr 3 (.t 1))⟩, ⟨none, (some 33), (.ld false 1 (.t 32))⟩, ⟨none, (some 34), (.call n_i_tincture [(.t 33)])⟩, ⟨none, (some 35), (.bin .add .none (.t 31) (.t 34))⟩, ⟨none, (some 2), (.mv (.t 35))⟩]
/-- (loop.example/g00884/impl.Group).text -/
def c_i_Group_text : C := (.seq (.reg r_i_Group_text_0 [1]) (.seq (.regD r_i_Group_text_1 p_i_Group_text_1 [1, 3]) (.seq (.seq (.reg r_i_Group_text_2 [1, 3, 18]) (.cond (.t 18) (.regD r_i_Group_text_3 p_i_Group_text_3 [1, 3]) .skip)) (.seq (.reg r_i_Group_text_4 [2]) .ret))))
def k_i_Group_text : Nat → List Nat
  | 0 => [1]
  | 1 => [1, 3]
  | 2 => [1, 3, 18]
  | 3 => [1, 3]
  | 4 => [2]
  | _ => []
theorem fn_i_Group_text : FnC Tryz.prog n_i_Group_text c_i_Group_text [(.tmp 2)] 36 :=
  ⟨Tryz.f193, _, k_i_Group_text, Tryz.func193, rfl, by kernel_rfl, by kernel_rfl, by kernel_rfl, rfl⟩
def r_s_l6Text_0 : List CO := [⟨none, (some 1), (.box 15 (.t 0))⟩, ⟨none, (some 2), (.mv (.k (.v (.string (bs [])))))⟩]
def r_s_l6Text_1 : List CO := [⟨none, (some 4), (.faddr 0 (.t 1))⟩, ⟨none, (some 5), (.ld true 4 (.t 4))⟩, ⟨none, (some 6), (.call n_s_l3Text [(.t 5)])⟩, ⟨none, (some 3), (.mv (.t 6))⟩]
def r_s_l6Text_2 : List CO := [⟨none, (some 7), (.faddr 4 (.t 1))⟩, ⟨none, (some 8), (.ld false 1 (.t 7))⟩, ⟨none, (some 9), (.bin .gtr .none (.t 8) (.k (.v (.int .i64 (0)))))⟩]
def r_s_l6Text_3 : List CO := [⟨none, (some 10), (.mv (.t 3))⟩, ⟨none, (some 11), (.bin .add .none (.t 10) (.k (.v (.string (bs [44, 32])))))⟩, ⟨none, (some 12), (.faddr 4 (.t 1))⟩, ⟨none, (some 13), (.ld false 1 (.t 12))⟩, ⟨none, (some 14), (.faddr 5 (.t 1))⟩, ⟨none, (some 15), (.ld false 1 (.t 14))⟩, ⟨none, (some 16), (.call n_s_l6Ordinary [(.t 13), (.t 15)])⟩, ⟨none, (some 17), (.bin .add .none (.t 11) (.t 16))⟩, ⟨none, (some 18), (.bin .add .none (.t 17) (.k (.v (.string (bs [32])))))⟩, ⟨none, (some 19), (.faddr 6 (.t 1))⟩, ⟨none, (some 20), (.ld false 1 (.t 19))⟩, ⟨none, (some 21), (.call n_s_l2Word [(.t 20)])⟩, ⟨none, (some 22), (.bin .add .none (.t 18) (.t 21))⟩, ⟨none, (some 3), (.mv (.t 22))⟩]
def p_s_l6Text_3 : List (List Nat) := [[], [0], [], [2], [], [4], [2, 3, 4, 5], [0, 1, 2, 3, 4, 5, 6], [0, 1, 2, 3, 4, 5, 6, 7], [], [9], [2, 3, 4, 5, 6, 9, 10], [0, 1, 2, 3, 4, 5, 6, 7, 8, 9, 10, 11], [0, 1, 2, 3, 4, 5, 6, 7, 8, 9, 10, 11, 12]]
def r_s_l6Text_4 : List CO := [⟨none, (some 23), (.faddr 7 (.t 1))⟩, ⟨none, (some 24), (.ld true 4 (.t 23))⟩, ⟨none, (some 25), (.call n_s_l4None [(.t 24)])⟩, ⟨none, (some 26), (.un .not (.t 25))⟩]
def r_s_l6Text_5 : List CO := [⟨none, (some 27), (.mv (.t 3))⟩, ⟨none, (some 28), (.bin .add .none (.t 27) (.k (.v (.string (bs [32, 99, 104, 97, 114, 103, 101, 100, 32, 119, 105, 116, 104, 32])))))⟩, ⟨none, (some 29), (.faddr 7 (.t 1))⟩, ⟨none, (some 30), (.ld true 4 (.t 29))⟩, ⟨none, (some 31), (.call n_s_l4Text [(.t 30)])⟩, ⟨none, (some 32), (.bin .add .none (.t 28) (.t 31))⟩, ⟨none, (some 3), (.mv (.t 32))⟩]
def r_s_l6Text_6 : List CO := [⟨none, (some 33), (.faddr 11 (.t 1))⟩, ⟨none, (some 34), (.ld true 4 (.t 33))⟩, ⟨none, (some 35), (.call n_s_l4None [(.t 34)])⟩, ⟨none, (some 36), (.un .not (.t 35))⟩]
def r_s_l6Text_7 : List CO := [⟨none, (some 37), (.mv (.t 3))⟩, ⟨none, (some 38), (.faddr 4 (.t 1))⟩, ⟨none, (some 39), (.ld false 1 (.t 38))⟩, ⟨none, (some 40), (.call n_s_l6Join [(.t 39)])⟩, ⟨none, (some 41), (.bin .add .none (.t 37) (.t 40))⟩, ⟨none, (some 42), (.faddr 11 (.t 1))⟩, ⟨none, (some 43), (.ld true 4 (.t 42))⟩, ⟨none, (some 44), (.call n_s_l4Text [(.t 43)])⟩, ⟨none, (some 45), (.bin .add .none (.t 41) (.t 44))⟩, ⟨none, (some 3), (.mv (.t 45))⟩]
def p_s_l6Text_7 : List (List Nat) := [[], [], [1], [1, 2], [0, 1, 2, 3], [], [5], [1, 2, 3, 5, 6], [0, 1, 2, 3, 4, 5, 6, 7], [0, 1, 2, 3, 4, 5, 6, 7, 8]]
def r_s_l6Text_8 : List CO := [⟨none, (some 46), (.mv (.t 3))⟩, ⟨none, (some 2), (.mv (.t 46))⟩]
/-- loop.example/g00884/spec.l6Text -/
def c_s_l6Text : C := (.seq (.reg r_s_l6Text_0 [1]) (.seq (.reg r_s_l6Text_1 [1, 3]) (.seq (.seq (.reg r_s_l6Text_2 [1, 3, 9]) (.cond (.t 9) (.regD r_s_l6Text_3 p_s_l6Text_3 [1, 3]) .skip)) (.seq (.seq (.wk (.reg r_s_l6Text_4 [1, 3, 26])) (.cond (.t 26) (.reg r_s_l6Text_5 [1, 3]) .skip)) (.seq (.seq (.wk (.reg r_s_l6Text_6 [1, 3, 36])) (.cond (.t 36) (.regD r_s_l6Text_7 p_s_l6Text_7 [3]) .skip)) (.seq (.wk (.reg r_s_l6Text_8 [2])) .ret))))))
def k_s_l6Text : Nat → List Nat
  | 0 => [1]
  | 1 => [1, 3]
  | 2 => [1, 3, 9]
  | 3 => [1, 3]
  | 4 => [999999, 1, 3, 26]
  | 5 => [1, 3]
  | 6 => [999999, 1, 3, 36]
  | 7 => [3]
  | 8 => [999999, 2]
  | _ => []
theorem fn_s_l6Text : FnC Tryz.prog n_s_l6Text c_s_l6Text [(.tmp 2)] 47 :=
  ⟨Tryz.f93, _, k_s_l6Text, Tryz.func93, rfl, by kernel_rfl, by kernel_rfl, by kernel_rfl, rfl⟩
end Go.Proofs.YtbeoijlggphklaaGreatDoor

/- The compact code of the functions, and that it is theirs: written by a program of this claim. -/
namespace Go.Proofs.YtbeoijlggphklaaGreatDoor
open Go.Abs
set_option maxRecDepth 100000
def r_s_l2Word_0 : List CO := [⟨none, (some 2), (.mv (.k (.v (.string (bs [])))))⟩]
def r_s_l2Word_1 : List CO := [⟨none, (some 3), (.bslice 1 (.v (.string (bs []))) 9 [(0, (.k (.v (.string (bs [103, 111, 108, 100]))))), (1, (.k (.v (.string (bs [115, 105, 108, 118, 101, 114]))))), (2, (.k (.v (.string (bs [114, 101, 100]))))), (3, (.k (.v (.string (bs [98, 108, 117, 101]))))), (4, (.k (.v (.string (bs [98, 108, 97, 99, 107]))))), (5, (.k (.v (.string (bs [103, 114, 101, 101, 110]))))), (6, (.k (.v (.string (bs [112, 117, 114, 112, 108, 101]))))), (7, (.k (.v (.string (bs [101, 114, 109, 105, 110, 101]))))), (8, (.k (.v (.string (bs [118, 97, 105, 114])))))])⟩, ⟨none, (some 4), (.mv (.t 0))⟩, ⟨none, (some 5), (.bin .sub .none (.t 4) (.k (.v (.int .i64 (1)))))⟩, ⟨none, (some 6), (.iaddr 1 (.t 3) (.t 5))⟩, ⟨none, (some 7), (.ld false 1 (.t 6))⟩, ⟨none, (some 2), (.mv (.t 7))⟩]
/-- loop.example/g00884/spec.l2Word -/
def c_s_l2Word : C := (.seq (.reg r_s_l2Word_0 [0]) (.seq (.reg r_s_l2Word_1 [2]) .ret))
def k_s_l2Word : Nat → List Nat
  | 0 => [0]
  | 1 => [2]
  | _ => []
theorem fn_s_l2Word : FnC Tryz.prog n_s_l2Word c_s_l2Word [(.tmp 2)] 8 :=
  ⟨Tryz.f136, _, k_s_l2Word, Tryz.func136, rfl, by kernel_rfl, by kernel_rfl, by kernel_rfl, rfl⟩
def r_s_l3LineWord_0 : List CO := [⟨none, (some 2), (.mv (.k (.v (.string (bs [])))))⟩]
def r_s_l3LineWord_1 : List CO := [⟨none, (some 3), (.bslice 1 (.v (.string (bs []))) 5 [(0, (.k (.v (.string (bs []))))), (1, (.k (.v (.string (bs [101, 110, 103, 114, 97, 105, 108, 101, 100]))))), (2, (.k (.v (.string (bs [119, 97, 118, 121]))))), (3, (.k (.v (.string (bs [101, 109, 98, 97, 116, 116, 108, 101, 100]))))), (4, (.k (.v (.string (bs [105, 110, 100, 101, 110, 116, 101, 100])))))])⟩, ⟨none, (some 4), (.mv (.t 0))⟩, ⟨none, (some 5), (.iaddr 1 (.t 3) (.t 4))⟩, ⟨none, (some 6), (.ld false 1 (.t 5))⟩, ⟨none, (some 2), (.mv (.t 6))⟩]
/-- loop.example/g00884/spec.l3LineWord -/
def c_s_l3LineWord : C := (.seq (.reg r_s_l3LineWord_0 [0]) (.seq (.reg r_s_l3LineWord_1 [2]) .ret))
def k_s_l3LineWord : Nat → List Nat
  | 0 => [0]
  | 1 => [2]
  | _ => []
theorem fn_s_l3LineWord : FnC Tryz.prog n_s_l3LineWord c_s_l3LineWord [(.tmp 2)] 7 :=
  ⟨Tryz.f181, _, k_s_l3LineWord, Tryz.func181, rfl, by kernel_rfl, by kernel_rfl, by kernel_rfl, rfl⟩
def r_s_l3Text_0 : List CO := [⟨none, (some 1), (.box 4 (.t 0))⟩, ⟨none, (some 2), (.mv (.k (.v (.string (bs [])))))⟩]
def r_s_l3Text_1 : List CO := [⟨none, (some 4), (.faddr 0 (.t 1))⟩, ⟨none, (some 5), (.ld false 1 (.t 4))⟩, ⟨none, (some 6), (.bin .eql .none (.t 5) (.k (.v (.int .i64 (0)))))⟩]
def r_s_l3Text_2 : List CO := [⟨none, (some 7), (.faddr 2 (.t 1))⟩, ⟨none, (some 8), (.ld false 1 (.t 7))⟩, ⟨none, (some 9), (.call n_s_l2Word [(.t 8)])⟩, ⟨none, (some 2), (.mv (.t 9))⟩]
def r_s_l3Text_3 : List CO := [⟨none, (some 10), (.bslice 1 (.v (.string (bs []))) 8 [(0, (.k (.v (.string (bs []))))), (1, (.k (.v (.string (bs [112, 101, 114, 32, 112, 97, 108, 101]))))), (2, (.k (.v (.string (bs [112, 101, 114, 32, 102, 101, 115, 115]))))), (3, (.k (.v (.string (bs [112, 101, 114, 32, 98, 101, 110, 100]))))), (4, (.k (.v (.string (bs [113, 117, 97, 114, 116, 101, 114, 108, 121]))))), (5, (.k (.v (.string (bs [112, 101, 114, 32, 115, 97, 108, 116, 105, 114, 101]))))), (6, (.k (.v (.string (bs [112, 97, 108, 121]))))), (7, (.k (.v (.string (bs [98, 97, 114, 114, 121])))))])⟩, ⟨none, (some 11), (.faddr 0 (.t 1))⟩, ⟨none, (some 12), (.ld false 1 (.t 11))⟩, ⟨none, (some 13), (.iaddr 1 (.t 10) (.t 12))⟩, ⟨none, (some 14), (.ld false 1 (.t 13))⟩, ⟨none, (some 3), (.mv (.t 14))⟩]
def r_s_l3Text_4 : List CO := [⟨none, (some 15), (.faddr 1 (.t 1))⟩, ⟨none, (some 16), (.ld false 1 (.t 15))⟩, ⟨none, (some 17), (.bin .gtr .none (.t 16) (.k (.v (.int .i64 (0)))))⟩]
def r_s_l3Text_5 : List CO := [⟨none, (some 18), (.mv (.t 3))⟩, ⟨none, (some 19), (.bin .add .none (.t 18) (.k (.v (.string (bs [32])))))⟩, ⟨none, (some 20), (.faddr 1 (.t 1))⟩, ⟨none, (some 21), (.ld false 1 (.t 20))⟩, ⟨none, (some 22), (.call n_s_l3LineWord [(.t 21)])⟩, ⟨none, (some 23), (.bin .add .none (.t 19) (.t 22))⟩, ⟨none, (some 3), (.mv (.t 23))⟩]
def r_s_l3Text_6 : List CO := [⟨none, (some 24), (.mv (.t 3))⟩, ⟨none, (some 25), (.bin .add .none (.t 24) (.k (.v (.string (bs [32])))))⟩, ⟨none, (some 26), (.faddr 2 (.t 1))⟩, ⟨none, (some 27), (.ld false 1 (.t 26))⟩, ⟨none, (some 28), (.call n_s_l2Word [(.t 27)])⟩, ⟨none, (some 29), (.bin .add .none (.t 25) (.t 28))⟩, ⟨none, (some 30), (.bin .add .none (.t 29) (.k (.v (.string (bs [32, 97, 110, 100, 32])))))⟩, ⟨none, (some 31), (.faddr 3 (.t 1))⟩, ⟨none, (some 32), (.ld false 1 (.t 31))⟩, ⟨none, (some 33), (.call n_s_l2Word [(.t 32)])⟩, ⟨none, (some 34), (.bin .add .none (.t 30) (.t 33))⟩, ⟨none, (some 2), (.mv (.t 34))⟩]
def p_s_l3Text_6 : List (List Nat) := [[], [0], [], [2], [2, 3], [0, 1, 2, 3, 4], [0, 1, 2, 3, 4, 5], [], [7], [2, 3, 4, 7, 8], [0, 1, 2, 3, 4, 5, 6, 7, 8, 9], [0, 1, 2, 3, 4, 5, 6, 7, 8, 9, 10]]
/-- loop.example/g00884/spec.l3Text -/
def c_s_l3Text : C := (.seq (.reg r_s_l3Text_0 [1]) (.seq (.seq (.reg r_s_l3Text_1 [1, 6]) (.cond (.t 6) (.seq (.reg r_s_l3Text_2 [2]) .ret) .skip)) (.seq (.reg r_s_l3Text_3 [1, 3]) (.seq (.seq (.reg r_s_l3Text_4 [1, 3, 17]) (.cond (.t 17) (.reg r_s_l3Text_5 [1, 3]) .skip)) (.seq (.regD r_s_l3Text_6 p_s_l3Text_6 [2]) .ret)))))
def k_s_l3Text : Nat → List Nat
  | 0 => [1]
  | 1 => [1, 6]
  | 2 => [2]
  | 3 => [1, 3]
  | 4 => [1, 3, 17]
  | 5 => [1, 3]
  | 6 => [2]
  | _ => []
theorem fn_s_l3Text : FnC Tryz.prog n_s_l3Text c_s_l3Text [(.tmp 2)] 35 :=
  ⟨Tryz.f134, _, k_s_l3Text, Tryz.func134, rfl, by kernel_rfl, by kernel_rfl, by kernel_rfl, rfl⟩
def r_s_l6Ordinary_0 : List CO := [⟨none, (some 4), (.mv (.k (.v (.string (bs [])))))⟩]
def r_s_l6Ordinary_1 : List CO := [⟨none, (some 6), (.bslice 1 (.v (.string (bs []))) 8 [(0, (.k (.v (.string (bs []))))), (1, (.k (.v (.string (bs [112, 97, 108, 101]))))), (2, (.k (.v (.string (bs [102, 101, 115, 115]))))), (3, (.k (.v (.string (bs [98, 101, 110, 100]))))), (4, (.k (.v (.string (bs [99, 104, 101, 118, 114, 111, 110]))))), (5, (.k (.v (.string (bs [99, 114, 111, 115, 115]))))), (6, (.k (.v (.string (bs [115, 97, 108, 116, 105, 114, 101]))))), (7, (.k (.v (.string (bs [99, 104, 105, 101, 102])))))])⟩, ⟨none, (some 7), (.mv (.t 0))⟩, ⟨none, (some 8), (.iaddr 1 (.t 6) (.t 7))⟩, ⟨none, (some 9), (.ld false 1 (.t 8))⟩, ⟨none, (some 10), (.bin .add .none (.k (.v (.string (bs [97, 32])))) (.t 9))⟩, ⟨none, (some 5), (.mv (.t 10))⟩]
def r_s_l6Ordinary_2 : List CO := [⟨none, (some 11), (.mv (.t 1))⟩, ⟨none, (some 12), (.bin .gtr .none (.t 11) (.k (.v (.int .i64 (0)))))⟩]
def r_s_l6Ordinary_3 : List CO := [⟨none, (some 13), (.mv (.t 5))⟩, ⟨none, (some 14), (.bin .add .none (.t 13) (.k (.v (.string (bs [32])))))⟩, ⟨none, (some 15), (.mv (.t 1))⟩, ⟨none, (some 16), (.call n_s_l3LineWord [(.t 15)])⟩, ⟨none, (some 17), (.bin .add .none (.t 14) (.t 16))⟩, ⟨none, (some 5), (.mv (.t 17))⟩]
def r_s_l6Ordinary_4 : List CO := [⟨none, (some 18), (.mv (.t 5))⟩, ⟨none, (some 4), (.mv (.t 18))⟩]
/-- loop.example/g00884/spec.l6Ordinary -/
def c_s_l6Ordinary : C := (.seq (.reg r_s_l6Ordinary_0 [0, 1]) (.seq (.reg r_s_l6Ordinary_1 [1, 5]) (.seq (.seq (.reg r_s_l6Ordinary_2 [1, 5, 12]) (.cond (.t 12) (.reg r_s_l6Ordinary_3 [5]) .skip)) (.seq (.reg r_s_l6Ordinary_4 [4]) .ret))))
def k_s_l6Ordinary : Nat → List Nat
  | 0 => [0, 1]
  | 1 => [1, 5]
  | 2 => [1, 5, 12]
  | 3 => [5]
  | 4 => [4]
  | _ => []
theorem fn_s_l6Ordinary : FnC Tryz.prog n_s_l6Ordinary c_s_l6Ordinary [(.tmp 4)] 19 :=
  ⟨Tryz.f135, _, k_s_l6Ordinary, Tryz.func135, rfl, by kernel_rfl, by kernel_rfl, by kernel_rfl, rfl⟩
def r_s_l6Join_0 : List CO := [⟨none, (some 2), (.mv (.k (.v (.string (bs [])))))⟩]
def r_s_l6Join_1 : List CO := [⟨none, (some 3), (.mv (.t 0))⟩]
def r_s_l6Join_2 : List CO := [⟨none, (some 5), (.bin .eql .none (.t 3) (.k (.v (.int .i64 (0)))))⟩, ⟨none, (some 4), (.mv (.t 5))⟩]
def r_s_l6Join_3 : List CO := [⟨none, (some 2), (.mv (.k (.v (.string (bs [44, 32])))))⟩]
def r_s_l6Join_4 : List CO := [⟨none, (some 7), (.bin .eql .none (.t 3) (.k (.v (.int .i64 (7)))))⟩, ⟨none, (some 6), (.mv (.t 7))⟩]
def r_s_l6Join_5 : List CO := [⟨none, (some 2), (.mv (.k (.v (.string (bs [32, 97, 98, 111, 118, 101, 32])))))⟩]
def r_s_l6Join_6 : List CO := [⟨none, (some 2), (.mv (.k (.v (.string (bs [32, 98, 101, 116, 119, 101, 101, 110, 32])))))⟩]
/-- loop.example/g00884/spec.l6Join -/
def c_s_l6Join : C := (.seq (.reg r_s_l6Join_0 [0]) (.seq (.seq (.reg r_s_l6Join_1 [3]) (.block 0 (.seq (.reg r_s_l6Join_2 [3, 4]) (.cond (.t 4) (.seq (.reg r_s_l6Join_3 [2]) .ret) (.seq (.reg r_s_l6Join_4 [6]) (.cond (.t 6) (.seq (.reg r_s_l6Join_5 [2]) .ret) .skip)))))) (.seq (.reg r_s_l6Join_6 [2]) .ret)))
def k_s_l6Join : Nat → List Nat
  | 0 => [0]
  | 1 => [3]
  | 2 => [3, 4]
  | 3 => [2]
  | 4 => [6]
  | 5 => [2]
  | 6 => [2]
  | _ => []
theorem fn_s_l6Join : FnC Tryz.prog n_s_l6Join c_s_l6Join [(.tmp 2)] 8 :=
  ⟨Tryz.f139, _, k_s_l6Join, Tryz.func139, rfl, by kernel_rfl, by kernel_rfl, by kernel_rfl, rfl⟩
def r_s_l4Attitudes_0 : List CO := [⟨none, (some 2), (.mv (.k (.v (.slice none 0 0))))⟩]
def r_s_l4Attitudes_1 : List CO := [⟨none, (some 3), (.mv (.t 0))⟩]
def r_s_l4Attitudes_2 : List CO := [⟨none, (some 5), (.bin .eql .none (.t 3) (.k (.v (.int .i64 (1)))))⟩, ⟨none, (some 4), (.mv (.t 5))⟩]
def r_s_l4Attitudes_3 : List CO := [⟨none, (some 6), (.bslice 1 (.v (.string (bs []))) 2 [(0, (.k (.v (.string (bs [114, 97, 109, 112, 97, 110, 116]))))), (1, (.k (.v (.string (bs [112, 97, 115, 115, 97, 110, 116])))))])⟩, ⟨none, (some 2), (.mv (.t 6))⟩]
def r_s_l4Attitudes_4 : List CO := [⟨none, (some 8), (.bin .eql .none (.t 3) (.k (.v (.int .i64 (2)))))⟩, ⟨none, (some 7), (.mv (.t 8))⟩]
def r_s_l4Attitudes_5 : List CO := [⟨none, (some 9), (.bslice 1 (.v (.string (bs []))) 2 [(0, (.k (.v (.string (bs [100, 105, 115, 112, 108, 97, 121, 101, 100]))))), (1, (.k (.v (.string (bs [114, 105, 115, 105, 110, 103])))))])⟩, ⟨none, (some 2), (.mv (.t 9))⟩]
def r_s_l4Attitudes_6 : List CO := [⟨none, (some 11), (.bin .eql .none (.t 3) (.k (.v (.int .i64 (3)))))⟩, ⟨none, (some 10), (.mv (.t 11))⟩]
def r_s_l4Attitudes_7 : List CO := [⟨none, (some 12), (.bslice 1 (.v (.string (bs []))) 2 [(0, (.k (.v (.string (bs [115, 119, 105, 109, 109, 105, 110, 103]))))), (1, (.k (.v (.string (bs [117, 112, 114, 105, 103, 104, 116])))))])⟩, ⟨none, (some 2), (.mv (.t 12))⟩]
def r_s_l4Attitudes_8 : List CO := [⟨none, (some 13), (.bslice 1 (.v (.string (bs []))) 0 [])⟩, ⟨none, (some 2), (.mv (.t 13))⟩]
/-- loop.example/g00884/spec.l4Attitudes -/
def c_s_l4Attitudes : C := (.seq (.reg r_s_l4Attitudes_0 [0]) (.seq (.seq (.reg r_s_l4Attitudes_1 [3]) (.block 0 (.seq (.reg r_s_l4Attitudes_2 [3, 4]) (.cond (.t 4) (.seq (.reg r_s_l4Attitudes_3 [2]) .ret) (.seq (.reg r_s_l4Attitudes_4 [3, 7]) (.cond (.t 7) (.seq (.reg r_s_l4Attitudes_5 [2]) .ret) (.seq (.reg r_s_l4Attitudes_6 [10]) (.cond (.t 10) (.seq (.reg r_s_l4Attitudes_7 [2]) .ret) .skip)))))))) (.seq (.reg r_s_l4Attitudes_8 [2]) .ret)))
def k_s_l4Attitudes : Nat → List Nat
  | 0 => [0]
  | 1 => [3]
  | 2 => [3, 4]
  | 3 => [2]
  | 4 => [3, 7]
  | 5 => [2]
  | 6 => [10]
  | 7 => [2]
  | 8 => [2]
  | _ => []
theorem fn_s_l4Attitudes : FnC Tryz.prog n_s_l4Attitudes c_s_l4Attitudes [(.tmp 2)] 14 :=
  ⟨Tryz.f218, _, k_s_l4Attitudes, Tryz.func218, rfl, by kernel_rfl, by kernel_rfl, by kernel_rfl, rfl⟩
def r_s_l4Word_0 : List CO := [⟨none, (some 4), (.mv (.k (.v (.string (bs [])))))⟩]
def r_s_l4Word_1 : List CO := [⟨none, (some 6), (.bslice 1 (.v (.string (bs []))) 8 [(0, (.k (.v (.string (bs [108, 105, 111, 110]))))), (1, (.k (.v (.string (bs [101, 97, 103, 108, 101]))))), (2, (.k (.v (.string (bs [102, 105, 115, 104]))))), (3, (.k (.v (.string (bs [114, 111, 115, 101]))))), (4, (.k (.v (.string (bs [115, 116, 97, 114]))))), (5, (.k (.v (.string (bs [116, 111, 119, 101, 114]))))), (6, (.k (.v (.string (bs [107, 101, 121]))))), (7, (.k (.v (.string (bs [115, 119, 111, 114, 100])))))])⟩, ⟨none, (some 7), (.mv (.t 0))⟩, ⟨none, (some 8), (.bin .sub .none (.t 7) (.k (.v (.int .i64 (1)))))⟩, ⟨none, (some 9), (.iaddr 1 (.t 6) (.t 8))⟩, ⟨none, (some 10), (.ld false 1 (.t 9))⟩, ⟨none, (some 5), (.mv (.t 10))⟩]
def r_s_l4Word_2 : List CO := [⟨none, (some 11), (.mv (.t 1))⟩, ⟨none, (some 12), (.bin .gtr .none (.t 11) (.k (.v (.int .i64 (1)))))⟩, ⟨none, (some 13), (.mv (.t 12))⟩, ⟨(some (13, true)), (some 14), (.mv (.t 0))⟩, ⟨(some (13, true)), (some 15), (.bin .neq .none (.t 14) (.k (.v (.int .i64 (3)))))⟩, ⟨none, (some 16), (.pick (.t 13) (.t 15) (.k (.v (.bool false))))⟩]
def r_s_l4Word_3 : List CO := [⟨none, (some 17), (.mv (.t 5))⟩, ⟨none, (some 18), (.bin .add .none (.t 17) (.k (.v (.string (bs [115])))))⟩, ⟨none, (some 5), (.mv (.t 18))⟩]
def r_s_l4Word_4 : List CO := [⟨none, (some 19), (.mv (.t 5))⟩, ⟨none, (some 4), (.mv (.t 19))⟩]
/-- loop.example/g00884/spec.l4Word -/
def c_s_l4Word : C := (.seq (.reg r_s_l4Word_0 [0, 1]) (.seq (.reg r_s_l4Word_1 [0, 1, 5]) (.seq (.seq (.reg r_s_l4Word_2 [5, 16]) (.cond (.t 16) (.reg r_s_l4Word_3 [5]) .skip)) (.seq (.reg r_s_l4Word_4 [4]) .ret))))
def k_s_l4Word : Nat → List Nat
  | 0 => [0, 1]
  | 1 => [0, 1, 5]
  | 2 => [5, 16]
  | 3 => [5]
  | 4 => [4]
  | _ => []
theorem fn_s_l4Word : FnC Tryz.prog n_s_l4Word c_s_l4Word [(.tmp 4)] 20 :=
  ⟨Tryz.f217, _, k_s_l4Word, Tryz.func217, rfl, by kernel_rfl, by kernel_rfl, by kernel_rfl, rfl⟩
def r_s_l4Bare_0 : List CO := [⟨none, (some 1), (.box 4 (.t 0))⟩, ⟨none, (some 2), (.mv (.k (.v (.string (bs [])))))⟩]
def r_s_l4Bare_1 : List CO := [⟨none, (some 4), (.bslice 1 (.v (.string (bs []))) 6 [(0, (.k (.v (.string (bs [97]))))), (1, (.k (.v (.string (bs [116, 119, 111]))))), (2, (.k (.v (.string (bs [116, 104, 114, 101, 101]))))), (3, (.k (.v (.string (bs [102, 111, 117, 114]))))), (4, (.k (.v (.string (bs [102, 105, 118, 101]))))), (5, (.k (.v (.string (bs [115, 105, 120])))))])⟩, ⟨none, (some 5), (.faddr 0 (.t 1))⟩, ⟨none, (some 6), (.ld false 1 (.t 5))⟩, ⟨none, (some 7), (.bin .sub .none (.t 6) (.k (.v (.int .i64 (1)))))⟩, ⟨none, (some 8), (.iaddr 1 (.t 4) (.t 7))⟩, ⟨none, (some 9), (.ld false 1 (.t 8))⟩, ⟨none, (some 3), (.mv (.t 9))⟩]
def r_s_l4Bare_2 : List CO := [⟨none, (some 10), (.faddr 0 (.t 1))⟩, ⟨none, (some 11), (.ld false 1 (.t 10))⟩, ⟨none, (some 12), (.bin .eql .none (.t 11) (.k (.v (.int .i64 (1)))))⟩, ⟨none, (some 13), (.mv (.t 12))⟩, ⟨(some (13, true)), (some 14), (.faddr 1 (.t 1))⟩, ⟨(some (13, true)), (some 15), (.ld false 1 (.t 14))⟩, ⟨(some (13, true)), (some 16), (.bin .eql .none (.t 15) (.k (.v (.int .i64 (2)))))⟩, ⟨none, (some 17), (.pick (.t 13) (.t 16) (.k (.v (.bool false))))⟩]
def r_s_l4Bare_3 : List CO := [⟨none, (some 3), (.mv (.k (.v (.string (bs [97, 110])))))⟩]
def r_s_l4Bare_4 : List CO := [⟨none, (some 18), (.mv (.t 3))⟩, ⟨none, (some 19), (.bin .add .none (.t 18) (.k (.v (.string (bs [32])))))⟩, ⟨none, (some 20), (.faddr 1 (.t 1))⟩, ⟨none, (some 21), (.ld false 1 (.t 20))⟩, ⟨none, (some 22), (.faddr 0 (.t 1))⟩, ⟨none, (some 23), (.ld false 1 (.t 22))⟩, ⟨none, (some 24), (.call n_s_l4Word [(.t 21), (.t 23)])⟩, ⟨none, (some 25), (.bin .add .none (.t 19) (.t 24))⟩, ⟨none, (some 3), (.mv (.t 25))⟩]
def r_s_l4Bare_5 : List CO := [⟨none, (some 26), (.faddr 2 (.t 1))⟩, ⟨none, (some 27), (.ld false 1 (.t 26))⟩, ⟨none, (some 28), (.bin .gtr .none (.t 27) (.k (.v (.int .i64 (0)))))⟩]
def r_s_l4Bare_6 : List CO := [⟨none, (some 29), (.mv (.t 3))⟩, ⟨none, (some 30), (.bin .add .none (.t 29) (.k (.v (.string (bs [32])))))⟩, ⟨none, (some 31), (.faddr 1 (.t 1))⟩, ⟨none, (some 32), (.ld false 1 (.t 31))⟩, ⟨none, (some 33), (.call n_s_l4Attitudes [(.t 32)])⟩, ⟨none, (some 34), (.faddr 2 (.t 1))⟩, ⟨none, (some 35), (.ld false 1 (.t 34))⟩, ⟨none, (some 36), (.bin .sub .none (.t 35) (.k (.v (.int .i64 (1)))))⟩, ⟨none, (some 37), (.iaddr 1 (.t 33) (.t 36))⟩, ⟨none, (some 38), (.ld false 1 (.t 37))⟩, ⟨none, (some 39), (.bin .add .none (.t 30) (.t 38))⟩, ⟨none, (some 3), (.mv (.t 39))⟩]
def p_s_l4Bare_6 : List (List Nat) := [[], [0], [], [2], [2, 3], [], [5], [5, 6], [2, 3, 4, 5, 6, 7], [2, 3, 4, 5, 6, 7, 8], [0, 1, 2, 3, 4, 5, 6, 7, 8, 9], [0, 1, 2, 3, 4, 5, 6, 7, 8, 9, 10]]
def r_s_l4Bare_7 : List CO := [⟨none, (some 40), (.mv (.t 3))⟩, ⟨none, (some 2), (.mv (.t 40))⟩]
/-- loop.example/g00884/spec.l4Bare -/
def c_s_l4Bare : C := (.seq (.reg r_s_l4Bare_0 [1]) (.seq (.reg r_s_l4Bare_1 [1, 3]) (.seq (.seq (.reg r_s_l4Bare_2 [1, 3, 17]) (.cond (.t 17) (.reg r_s_l4Bare_3 [1, 3]) .skip)) (.seq (.wk (.reg r_s_l4Bare_4 [1, 3])) (.seq (.seq (.reg r_s_l4Bare_5 [1, 3, 28]) (.cond (.t 28) (.regD r_s_l4Bare_6 p_s_l4Bare_6 [3]) .skip)) (.seq (.reg r_s_l4Bare_7 [2]) .ret))))))
def k_s_l4Bare : Nat → List Nat
  | 0 => [1]
  | 1 => [1, 3]
  | 2 => [1, 3, 17]
  | 3 => [1, 3]
  | 4 => [999999, 1, 3]
  | 5 => [1, 3, 28]
  | 6 => [3]
  | 7 => [2]
  | _ => []
theorem fn_s_l4Bare : FnC Tryz.prog n_s_l4Bare c_s_l4Bare [(.tmp 2)] 41 :=
  ⟨Tryz.f182, _, k_s_l4Bare, Tryz.func182, rfl, by kernel_rfl, by kernel_rfl, by kernel_rfl, rfl⟩
def r_s_l4Text_0 : List CO := [⟨none, (some 1), (.box 4 (.t 0))⟩, ⟨none, (some 2), (.mv (.k (.v (.string (bs [])))))⟩]
def r_s_l4Text_1 : List CO := [⟨none, (some 3), (.ld true 4 (.t 1))⟩, ⟨none, (some 4), (.call n_s_l4Bare [(.t 3)])⟩, ⟨none, (some 5), (.bin .add .none (.t 4) (.k (.v (.string (bs [32])))))⟩, ⟨none, (some 6), (.faddr 3 (.t 1))⟩, ⟨none, (some 7), (.ld false 1 (.t 6))⟩, ⟨none, (some 8), (.call n_s_l2Word [(.t 7)])⟩, ⟨none, (some 9), (.bin .add .none (.t 5) (.t 8))⟩, ⟨none, (some 2), (.mv (.t 9))⟩]
def p_s_l4Text_1 : List (List Nat) := [[], [0], [0, 1], [], [3], [0, 1, 3, 4], [0, 1, 2, 3, 4, 5], [0, 1, 2, 3, 4, 5, 6]]
/-- loop.example/g00884/spec.l4Text -/
def c_s_l4Text : C := (.seq (.reg r_s_l4Text_0 [1]) (.seq (.regD r_s_l4Text_1 p_s_l4Text_1 [2]) .ret))
def k_s_l4Text : Nat → List Nat
  | 0 => [1]
  | 1 => [2]
  | _ => []
theorem fn_s_l4Text : FnC Tryz.prog n_s_l4Text c_s_l4Text [(.tmp 2)] 10 :=
  ⟨Tryz.f138, _, k_s_l4Text, Tryz.func138, rfl, by kernel_rfl, by kernel_rfl, by kernel_rfl, rfl⟩
def r_i_tinctureWords_0 : List CO := [⟨none, (some 0), (.mv (.k (.v (.slice none 0 0))))⟩]
def r_i_tinctureWords_1 : List CO := [⟨none, (some 1), (.bslice 1 (.v (.string (bs []))) 9 [(0, (.k (.v (.string (bs [103, 111, 108, 100]))))), (1, (.k (.v (.string (bs [115, 105, 108, 118, 101, 114]))))), (2, (.k (.v (.string (bs [114, 101, 100]))))), (3, (.k (.v (.string (bs [98, 108, 117, 101]))))), (4, (.k (.v (.string (bs [98, 108, 97, 99, 107]))))), (5, (.k (.v (.string (bs [103, 114, 101, 101, 110]))))), (6, (.k (.v (.string (bs [112, 117, 114, 112, 108, 101]))))), (7, (.k (.v (.string (bs [101, 114, 109, 105, 110, 101]))))), (8, (.k (.v (.string (bs [118, 97, 105, 114])))))])⟩, ⟨none, (some 0), (.mv (.t 1))⟩]
/-- loop.example/g00884/impl.tinctureWords -/
def c_i_tinctureWords : C := (.seq (.reg r_i_tinctureWords_0 []) (.seq (.reg r_i_tinctureWords_1 [0]) .ret))
def k_i_tinctureWords : Nat → List Nat
  | 0 => []
  | 1 => [0]
  | _ => []
theorem fn_i_tinctureWords : FnC Tryz.prog n_i_tinctureWords c_i_tinctureWords [(.tmp 0)] 2 :=
  ⟨Tryz.f229, _, k_i_tinctureWords, Tryz.func229, rfl, by kernel_rfl, by kernel_rfl, by kernel_rfl, rfl⟩
def r_i_lineWords_0 : List CO := [⟨none, (some 0), (.mv (.k (.v (.slice none 0 0))))⟩]
def r_i_lineWords_1 : List CO := [⟨none, (some 1), (.bslice 1 (.v (.string (bs []))) 4 [(0, (.k (.v (.string (bs [101, 110, 103, 114, 97, 105, 108, 101, 100]))))), (1, (.k (.v (.string (bs [119, 97, 118, 121]))))), (2, (.k (.v (.string (bs [101, 109, 98, 97, 116, 116, 108, 101, 100]))))), (3, (.k (.v (.string (bs [105, 110, 100, 101, 110, 116, 101, 100])))))])⟩, ⟨none, (some 0), (.mv (.t 1))⟩]
/-- loop.example/g00884/impl.lineWords -/
def c_i_lineWords : C := (.seq (.reg r_i_lineWords_0 []) (.seq (.reg r_i_lineWords_1 [0]) .ret))
def k_i_lineWords : Nat → List Nat
  | 0 => []
  | 1 => [0]
  | _ => []
theorem fn_i_lineWords : FnC Tryz.prog n_i_lineWords c_i_lineWords [(.tmp 0)] 2 :=
  ⟨Tryz.f247, _, k_i_lineWords, Tryz.func247, rfl, by kernel_rfl, by kernel_rfl, by kernel_rfl, rfl⟩
def r_i_divisionWords_0 : List CO := [⟨none, (some 0), (.mv (.k (.v (.slice none 0 0))))⟩]
def r_i_divisionWords_1 : List CO := [⟨none, (some 1), (.bslice 1 (.v (.string (bs []))) 7 [(0, (.k (.v (.string (bs [112, 101, 114, 32, 112, 97, 108, 101]))))), (1, (.k (.v (.string (bs [112, 101, 114, 32, 102, 101, 115, 115]))))), (2, (.k (.v (.string (bs [112, 101, 114, 32, 98, 101, 110, 100]))))), (3, (.k (.v (.string (bs [113, 117, 97, 114, 116, 101, 114, 108, 121]))))), (4, (.k (.v (.string (bs [112, 101, 114, 32, 115, 97, 108, 116, 105, 114, 101]))))), (5, (.k (.v (.string (bs [112, 97, 108, 121]))))), (6, (.k (.v (.string (bs [98, 97, 114, 114, 121])))))])⟩, ⟨none, (some 0), (.mv (.t 1))⟩]
/-- loop.example/g00884/impl.divisionWords -/
def c_i_divisionWords : C := (.seq (.reg r_i_divisionWords_0 []) (.seq (.reg r_i_divisionWords_1 [0]) .ret))
def k_i_divisionWords : Nat → List Nat
  | 0 => []
  | 1 => [0]
  | _ => []
theorem fn_i_divisionWords : FnC Tryz.prog n_i_divisionWords c_i_divisionWords [(.tmp 0)] 2 :=
  ⟨Tryz.f227, _, k_i_divisionWords, Tryz.func227, rfl, by kernel_rfl, by kernel_rfl, by kernel_rfl, rfl⟩
def r_i_ordinaryWords_0 : List CO := [⟨none, (some 0), (.mv (.k (.v (.slice none 0 0))))⟩]
def r_i_ordinaryWords_1 : List CO := [⟨none, (some 1), (.bslice 1 (.v (.string (bs []))) 7 [(0, (.k (.v (.string (bs [112, 97, 108, 101]))))), (1, (.k (.v (.string (bs [102, 101, 115, 115]))))), (2, (.k (.v (.string (bs [98, 101, 110, 100]))))), (3, (.k (.v (.string (bs [99, 104, 101, 118, 114, 111, 110]))))), (4, (.k (.v (.string (bs [99, 114, 111, 115, 115]))))), (5, (.k (.v (.string (bs [115, 97, 108, 116, 105, 114, 101]))))), (6, (.k (.v (.string (bs [99, 104, 105, 101, 102])))))])⟩, ⟨none, (some 0), (.mv (.t 1))⟩]
/-- loop.example/g00884/impl.ordinaryWords -/
def c_i_ordinaryWords : C := (.seq (.reg r_i_ordinaryWords_0 []) (.seq (.reg r_i_ordinaryWords_1 [0]) .ret))
def k_i_ordinaryWords : Nat → List Nat
  | 0 => []
  | 1 => [0]
  | _ => []
theorem fn_i_ordinaryWords : FnC Tryz.prog n_i_ordinaryWords c_i_ordinaryWords [(.tmp 0)] 2 :=
  ⟨Tryz.f228, _, k_i_ordinaryWords, Tryz.func228, rfl, by kernel_rfl, by kernel_rfl, by kernel_rfl, rfl⟩
def r_i_kindWords_0 : List CO := [⟨none, (some 0), (.mv (.k (.v (.slice none 0 0))))⟩]
def r_i_kindWords_1 : List CO := [⟨none, (some 1), (.bslice 1 (.v (.string (bs []))) 8 [(0, (.k (.v (.string (bs [108, 105, 111, 110]))))), (1, (.k (.v (.string (bs [101, 97, 103, 108, 101]))))), (2, (.k (.v (.string (bs [102, 105, 115, 104]))))), (3, (.k (.v (.string (bs [114, 111, 115, 101]))))), (4, (.k (.v (.string (bs [115, 116, 97, 114]))))), (5, (.k (.v (.string (bs [116, 111, 119, 101, 114]))))), (6, (.k (.v (.string (bs [107, 101, 121]))))), (7, (.k (.v (.string (bs [115, 119, 111, 114, 100])))))])⟩, ⟨none, (some 0), (.mv (.t 1))⟩]
/-- loop.example/g00884/impl.kindWords -/
def c_i_kindWords : C := (.seq (.reg r_i_kindWords_0 []) (.seq (.reg r_i_kindWords_1 [0]) .ret))
def k_i_kindWords : Nat → List Nat
  | 0 => []
  | 1 => [0]
  | _ => []
theorem fn_i_kindWords : FnC Tryz.prog n_i_kindWords c_i_kindWords [(.tmp 0)] 2 :=
  ⟨Tryz.f248, _, k_i_kindWords, Tryz.func248, rfl, by kernel_rfl, by kernel_rfl, by kernel_rfl, rfl⟩
def r_i_tincture_0 : List CO := [⟨none, (some 2), (.mv (.k (.v (.string (bs [])))))⟩]
def r_i_tincture_1 : List CO := [⟨none, (some 3), (.call n_i_tinctureWords [])⟩, ⟨none, (some 4), (.mv (.t 0))⟩, ⟨none, (some 5), (.bin .sub .none (.t 4) (.k (.v (.int .i64 (1)))))⟩, ⟨none, (some 6), (.iaddr 1 (.t 3) (.t 5))⟩, ⟨none, (some 7), (.ld false 1 (.t 6))⟩, ⟨none, (some 2), (.mv (.t 7))⟩]
/-- loop.example/g00884/impl.tincture -/
def c_i_tincture : C := (.seq (.reg r_i_tincture_0 [0]) (.seq (.reg r_i_tincture_1 [2]) .ret))
def k_i_tincture : Nat → List Nat
  | 0 => [0]
  | 1 => [2]
  | _ => []
theorem fn_i_tincture : FnC Tryz.prog n_i_tincture c_i_tincture [(.tmp 2)] 8 :=
  ⟨Tryz.f192, _, k_i_tincture, Tryz.func192, rfl, by kernel_rfl, by kernel_rfl, by kernel_rfl, rfl⟩
def r_i_withLine_0 : List CO := [⟨none, (some 4), (.mv (.k (.v (.string (bs [])))))⟩]
def r_i_withLine_1 : List CO := [⟨none, (some 5), (.mv (.t 1))⟩, ⟨none, (some 6), (.bin .eql .none (.t 5) (.k (.v (.int .i64 (0)))))⟩]
def r_i_withLine_2 : List CO := [⟨none, (some 7), (.mv (.t 0))⟩, ⟨none, (some 4), (.mv (.t 7))⟩]
def r_i_withLine_3 : List CO := [⟨none, (some 8), (.mv (.t 0))⟩, ⟨none, (some 9), (.bin .add .none (.t 8) (.k (.v (.string (bs [32])))))⟩, ⟨none, (some 10), (.call n_i_lineWords [])⟩, ⟨none, (some 11), (.mv (.t 1))⟩, ⟨none, (some 12), (.bin .sub .none (.t 11) (.k (.v (.int .i64 (1)))))⟩, ⟨none, (some 13), (.iaddr 1 (.t 10) (.t 12))⟩, ⟨none, (some 14), (.ld false 1 (.t 13))⟩, ⟨none, (some 15), (.bin .add .none (.t 9) (.t 14))⟩, ⟨none, (some 4), (.mv (.t 15))⟩]
/-- loop.example/g00884/impl.withLine -/
def c_i_withLine : C := (.seq (.reg r_i_withLine_0 [0, 1]) (.seq (.seq (.reg r_i_withLine_1 [0, 1, 6]) (.cond (.t 6) (.seq (.reg r_i_withLine_2 [4]) .ret) .skip)) (.seq (.reg r_i_withLine_3 [4]) .ret)))
def k_i_withLine : Nat → List Nat
  | 0 => [0, 1]
  | 1 => [0, 1, 6]
  | 2 => [4]
  | 3 => [4]
  | _ => []
theorem fn_i_withLine : FnC Tryz.prog n_i_withLine c_i_withLine [(.tmp 4)] 16 :=
  ⟨Tryz.f226, _, k_i_withLine, Tryz.func226, rfl, by kernel_rfl, by kernel_rfl, by kernel_rfl, rfl⟩
def r_i_ordinaryStart_0 : List CO := [⟨none, (some 4), (.mv (.k (.v (.string (bs [])))))⟩]
def r_i_ordinaryStart_1 : List CO := [⟨none, (some 5), (.call n_i_ordinaryWords [])⟩, ⟨none, (some 6), (.mv (.t 0))⟩, ⟨none, (some 7), (.bin .sub .none (.t 6) (.k (.v (.int .i64 (1)))))⟩, ⟨none, (some 8), (.iaddr 1 (.t 5) (.t 7))⟩, ⟨none, (some 9), (.ld false 1 (.t 8))⟩, ⟨none, (some 10), (.bin .add .none (.k (.v (.string (bs [97, 32])))) (.t 9))⟩, ⟨none, (some 11), (.mv (.t 1))⟩, ⟨none, (some 12), (.call n_i_withLine [(.t 10), (.t 11)])⟩, ⟨none, (some 4), (.mv (.t 12))⟩]
/-- loop.example/g00884/impl.ordinaryStart -/
def c_i_ordinaryStart : C := (.seq (.reg r_i_ordinaryStart_0 [0, 1]) (.seq (.reg r_i_ordinaryStart_1 [4]) .ret))
def k_i_ordinaryStart : Nat → List Nat
  | 0 => [0, 1]
  | 1 => [4]
  | _ => []
theorem fn_i_ordinaryStart : FnC Tryz.prog n_i_ordinaryStart c_i_ordinaryStart [(.tmp 4)] 13 :=
  ⟨Tryz.f191, _, k_i_ordinaryStart, Tryz.func191, rfl, by kernel_rfl, by kernel_rfl, by kernel_rfl, rfl⟩
def r_i_countWord_0 : List CO := [⟨none, (some 4), (.mv (.k (.v (.string (bs [])))))⟩]
def r_i_countWord_1 : List CO := [⟨none, (some 5), (.mv (.t 0))⟩, ⟨none, (some 6), (.bin .eql .none (.t 5) (.k (.v (.int .i64 (1)))))⟩, ⟨none, (some 7), (.mv (.t 6))⟩, ⟨(some (7, true)), (some 8), (.mv (.t 1))⟩, ⟨(some (7, true)), (some 9), (.bin .eql .none (.t 8) (.k (.v (.int .i64 (2)))))⟩, ⟨none, (some 10), (.pick (.t 7) (.t 9) (.k (.v (.bool false))))⟩]
def r_i_countWord_2 : List CO := [⟨none, (some 4), (.mv (.k (.v (.string (bs [97, 110])))))⟩]
def r_i_countWord_3 : List CO := [⟨none, (some 11), (.bslice 1 (.v (.string (bs []))) 6 [(0, (.k (.v (.string (bs [97]))))), (1, (.k (.v (.string (bs [116, 119, 111]))))), (2, (.k (.v (.string (bs [116, 104, 114, 101, 101]))))), (3, (.k (.v (.string (bs [102, 111, 117, 114]))))), (4, (.k (.v (.string (bs [102, 105, 118, 101]))))), (5, (.k (.v (.string (bs [115, 105, 120])))))])⟩, ⟨none, (some 12), (.mv (.t 0))⟩, ⟨none, (some 13), (.bin .sub .none (.t 12) (.k (.v (.int .i64 (1)))))⟩, ⟨none, (some 14), (.iaddr 1 (.t 11) (.t 13))⟩, ⟨none, (some 15), (.ld false 1 (.t 14))⟩, ⟨none, (some 4), (.mv (.t 15))⟩]
/-- loop.example/g00884/impl.countWord -/
def c_i_countWord : C := (.seq (.reg r_i_countWord_0 [0, 1]) (.seq (.seq (.reg r_i_countWord_1 [0, 10]) (.cond (.t 10) (.seq (.reg r_i_countWord_2 [4]) .ret) .skip)) (.seq (.reg r_i_countWord_3 [4]) .ret)))
def k_i_countWord : Nat → List Nat
  | 0 => [0, 1]
  | 1 => [0, 10]
  | 2 => [4]
  | 3 => [4]
  | _ => []
theorem fn_i_countWord : FnC Tryz.prog n_i_countWord c_i_countWord [(.tmp 4)] 16 :=
  ⟨Tryz.f230, _, k_i_countWord, Tryz.func230, rfl, by kernel_rfl, by kernel_rfl, by kernel_rfl, rfl⟩
def r_i_kindWord_0 : List CO := [⟨none, (some 4), (.mv (.k (.v (.string (bs [])))))⟩]
def r_i_kindWord_1 : List CO := [⟨none, (some 6), (.call n_i_kindWords [])⟩, ⟨none, (some 7), (.mv (.t 0))⟩, ⟨none, (some 8), (.bin .sub .none (.t 7) (.k (.v (.int .i64 (1)))))⟩, ⟨none, (some 9), (.iaddr 1 (.t 6) (.t 8))⟩, ⟨none, (some 10), (.ld false 1 (.t 9))⟩, ⟨none, (some 5), (.mv (.t 10))⟩]
def r_i_kindWord_2 : List CO := [⟨none, (some 11), (.mv (.t 1))⟩, ⟨none, (some 12), (.bin .gtr .none (.t 11) (.k (.v (.int .i64 (1)))))⟩, ⟨none, (some 13), (.mv (.t 12))⟩, ⟨(some (13, true)), (some 14), (.mv (.t 0))⟩, ⟨(some (13, true)), (some 15), (.bin .neq .none (.t 14) (.k (.v (.int .i64 (3)))))⟩, ⟨none, (some 16), (.pick (.t 13) (.t 15) (.k (.v (.bool false))))⟩]
def r_i_kindWord_3 : List CO := [⟨none, (some 17), (.mv (.t 5))⟩, ⟨none, (some 18), (.bin .add .none (.t 17) (.k (.v (.string (bs [115])))))⟩, ⟨none, (some 5), (.mv (.t 18))⟩]
def r_i_kindWord_4 : List CO := [⟨none, (some 19), (.mv (.t 5))⟩, ⟨none, (some 4), (.mv (.t 19))⟩]
/-- loop.example/g00884/impl.kindWord -/
def c_i_kindWord : C := (.seq (.reg r_i_kindWord_0 [0, 1]) (.seq (.reg r_i_kindWord_1 [0, 1, 5]) (.seq (.seq (.reg r_i_kindWord_2 [5, 16]) (.cond (.t 16) (.reg r_i_kindWord_3 [5]) .skip)) (.seq (.reg r_i_kindWord_4 [4]) .ret))))
def k_i_kindWord : Nat → List Nat
  | 0 => [0, 1]
  | 1 => [0, 1, 5]
  | 2 => [5, 16]
  | 3 => [5]
  | 4 => [4]
  | _ => []
theorem fn_i_kindWord : FnC Tryz.prog n_i_kindWord c_i_kindWord [(.tmp 4)] 20 :=
  ⟨Tryz.f231, _, k_i_kindWord, Tryz.func231, rfl, by kernel_rfl, by kernel_rfl, by kernel_rfl, rfl⟩
end Go.Proofs.YtbeoijlggphklaaGreatDoor
