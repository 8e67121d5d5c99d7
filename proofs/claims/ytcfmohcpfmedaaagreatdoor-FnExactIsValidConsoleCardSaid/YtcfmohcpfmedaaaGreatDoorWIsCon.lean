/- IsValidConsole: program, reference, law. -/
import Derived.Test.YtcfmohcpfmedaaaGreatDoorCodeWIsCon
import Derived.Test.YtcfmohcpfmedaaaGreatDoorRegister
import Derived.Test.YtcfmohcpfmedaaaGreatDoorConsoleT
import Derived.Test.YtcfmohcpfmedaaaGreatDoorWLogs
set_option linter.unusedVariables false
set_option linter.unusedSimpArgs false
namespace Go.Proofs.YtcfmohcpfmedaaaGreatDoor
open Go.Abs

def consoleOk (c : Console) : Bool := register c.grants && logOk c.log
theorem i_IsValidConsole (c : Console) (hf : fits c.log) : PCall Tryz.prog n_i_IsValidConsole [eConsole c] (B (consoleOk c)) := by
  refine PCall.of fn_i_IsValidConsole (by simp) ?_
  simp [c_i_IsValidConsole, r_i_IsValidConsole_0, r_i_IsValidConsole_1]
  refine callQ_v (PCall.arg (i_IsValidRegister c.grants) (by simp)) ?_
  cases h : register c.grants with
  | false => simp [consoleOk, h]
  | true =>
    simp
    refine callQ_v (PCall.arg (i_IsValidLog c.log hf) (by simp)) ?_
    simp [consoleOk, h]
theorem s_l28Good (c : Console) (hf : fits c.log) : PCall Tryz.prog n_s_l28Good [eConsole c] (B (consoleOk c)) := by
  refine PCall.of fn_s_l28Good (by simp) ?_
  simp [c_s_l28Good, r_s_l28Good_0, r_s_l28Good_1]
  refine callQ_v (PCall.arg (s_l16Good c.grants) (by simp)) ?_
  cases h : register c.grants with
  | false => simp [consoleOk, h]
  | true =>
    simp
    refine callQ_v (PCall.arg (s_l27Log c.log hf) (by simp)) ?_
    simp [consoleOk, h]
theorem s_IsValidConsole (c : Console) (hf : fits c.log) : PCall Tryz.prog n_s_IsValidConsole [eConsole c] (B (consoleOk c)) := by
  refine PCall.of fn_s_IsValidConsole (by simp) ?_
  simp [c_s_IsValidConsole, r_s_IsValidConsole_0, r_s_IsValidConsole_1]
  refine callQ_v (PCall.arg (s_l28Good c hf) (by simp)) ?_
  simp
theorem w_toConsole (c : Console) (hl : c.grants.length ≤ 1048576) : PCall Tryz.prog n_w_toConsole [eConsole c] (oConsole c) := by
  refine PCall.of fn_w_toConsole (by simp) ?_
  simp [c_w_toConsole, r_w_toConsole_0, r_w_toConsole_1, r_w_toConsole_2]
  refine callQ_of (PCall.arg (w_toRegister c.grants hl) (by simp)) rfl (.inl (by simp)) (by simp) ?_
  simp [r_w_toConsole_3]
  refine callQ_of (PCall.arg (w_toLog c.log) (by simp)) rfl (.inl (by simp)) (by simp) ?_
  simp [r_w_toConsole_4]
def szC (c : Console) : Nat := szG c.grants + (c.log.durable.length + c.log.pending.length)
theorem w_szConsole (c : Console) (left : Int) (h0 : 0 ≤ left) (h1 : left ≤ 1048576) : PCall Tryz.prog n_w_szConsole [eConsole c, I left] (I (rest left (szC c))) := by
  refine PCall.of fn_w_szConsole (by simp) ?_
  simp [c_w_szConsole, r_w_szConsole_0, r_w_szConsole_1]
  refine callQ_v (PCall.arg (w_szRegister c.grants left h0 h1) (by simp)) ?_
  simp [r_w_szConsole_2]
  refine ⟨fun hneg => ?_, fun hge => ?_⟩
  · simp [r_w_szConsole_3]
    unfold rest szC at *
    split at hneg <;> split <;> omega
  · have hs := rest_nonneg (left := left) (n := szG c.grants) (by omega)
    have he : rest left (szG c.grants) = left - szG c.grants := by unfold rest; rw [if_neg (by omega)]
    rw [he]
    simp [r_w_szConsole_4]
    refine callQ_v (PCall.arg (w_szLog c.log (left - szG c.grants) (by omega) (by omega)) (by simp)) ?_
    simp [r_w_szConsole_5, r_w_szConsole_6, r_w_szConsole_7]
    unfold rest szC
    constructor
    · intro h
      split at h <;> split <;> omega
    · intro h
      split at h <;> split <;> omega
theorem w_FnExactIsValidConsole (c : Console) : PCall Tryz.prog n_w_FnExactIsValidConsole [eConsole c] (B true) := by
  refine PCall.of fn_w_FnExactIsValidConsole (by simp) ?_
  simp [c_w_FnExactIsValidConsole, r_w_FnExactIsValidConsole_0, r_w_FnExactIsValidConsole_1, r_w_FnExactIsValidConsole_2]
  refine callQ_v (PCall.arg (w_szConsole c 1048576 (by omega) (by omega)) (by simp)) ?_
  simp [r_w_FnExactIsValidConsole_3]
  refine ⟨fun _ => by simp [r_w_FnExactIsValidConsole_4], fun hge => ?_⟩
  have hs := rest_nonneg (left := 1048576) (n := szC c) (by omega)
  have hl : c.grants.length ≤ 1048576 := by unfold szC szG at hs; omega
  have hf : fits c.log := by unfold szC at hs; unfold fits; omega
  simp [r_w_FnExactIsValidConsole_5]
  refine callQ_of (PCall.arg (w_toConsole c hl) (by simp)) rfl (.inl (by simp)) (by simp) ?_
  simp
  refine callQ_v (PCall.arg (s_IsValidConsole c hf) (by simp)) ?_
  simp [r_w_FnExactIsValidConsole_6]
  refine callQ_of (PCall.arg (w_toConsole c hl) (by simp)) rfl (.inl (by simp)) (by simp) ?_
  simp [r_w_FnExactIsValidConsole_7]
  refine callQ_v (PCall.arg (i_IsValidConsole c hf) (by simp)) ?_
  simp [r_w_FnExactIsValidConsole_8]
  simp [r_w_FnExactIsValidConsole_10, p_w_FnExactIsValidConsole_10]
  refine callD_of (PCall.arg (w_toConsole c hl) (by simp)) rfl (.inl (by simp)) ?_ ?_ ?_
  · simp
  · simp
  simp
  refine callD_v (PCall.arg (w_eqConsole c) (by simp [List.take_of_length_le])) ?_ ?_ ?_
  · simp
  · simp
  simp
  refine ⟨oEnd_of (by simp [p_w_FnExactIsValidConsole_10]) (by simp), ?_⟩
  simp [r_w_FnExactIsValidConsole_12]
end Go.Proofs.YtcfmohcpfmedaaaGreatDoor
