/- NewConsole: program, reference, law. -/
import Derived.Test.YtcfmohcpfmedaaaCodeWNewCon
import Derived.Test.YtcfmohcpfmedaaaRegister
import Derived.Test.YtcfmohcpfmedaaaConsoleT
set_option linter.unusedVariables false
set_option linter.unusedSimpArgs false
namespace Go.Proofs.Ytcfmohcpfmedaaa
open Go.Abs

def newC (r : Register) : Console := if register r then ⟨r, ⟨[], [], 0⟩⟩ else ⟨[], ⟨[], [], 0⟩⟩
theorem newC_len (r : Register) : (newC r).grants.length ≤ 12 := by
  unfold newC
  split
  · rename_i h; exact register_len h
  · simp
theorem i_NewConsole (r : Register) (hl : r.length ≤ 1048576) : PCall Try.prog n_i_NewConsole [eRegister r] (.tup [oConsole (newC r), B (register r)]) := by
  refine PCall.ofN fn_i_NewConsole (by simp) ?_
  simp [c_i_NewConsole, r_i_NewConsole_0, r_i_NewConsole_1]
  refine callQ_v (PCall.arg (i_IsValidRegister r) (by simp)) ?_
  cases h : register r with
  | false => simp [r_i_NewConsole_2, newC, h]
  | true =>
    simp [r_i_NewConsole_3]
    refine callQ_of (PCall.arg (i_cloneRegister r hl) (by simp)) rfl (.inl (by simp)) (by simp) ?_
    simp [newC, h]
theorem s_NewConsole (r : Register) (hl : r.length ≤ 1048576) : PCall Try.prog n_s_NewConsole [eRegister r] (.tup [oConsole (newC r), B (register r)]) := by
  refine PCall.ofN fn_s_NewConsole (by simp) ?_
  simp [c_s_NewConsole, r_s_NewConsole_0, r_s_NewConsole_1]
  refine callQ_v (PCall.arg (s_l16Good r) (by simp)) ?_
  cases h : register r with
  | false => simp [r_s_NewConsole_2, newC, h]
  | true =>
    simp [r_s_NewConsole_3]
    refine callQ_of (PCall.arg (s_l16Own r hl) (by simp)) rfl (.inl (by simp)) (by simp) ?_
    simp [newC, h]
theorem w_FnExactNewConsole (r : Register) : PCall Try.prog n_w_FnExactNewConsole [eRegister r] (B true) := by
  have hlen := newC_len r
  refine PCall.of fn_w_FnExactNewConsole (by simp) ?_
  simp [c_w_FnExactNewConsole, r_w_FnExactNewConsole_0, r_w_FnExactNewConsole_1, r_w_FnExactNewConsole_2]
  refine callQ_v (PCall.arg (w_szRegister r 1048576 (by omega) (by omega)) (by simp)) ?_
  simp [r_w_FnExactNewConsole_3]
  refine ⟨fun _ => by simp [r_w_FnExactNewConsole_4], fun hge => ?_⟩
  have hs := rest_nonneg (left := 1048576) (n := szG r) (by omega)
  have hl : r.length ≤ 1048576 := by unfold szG at hs; omega
  simp [r_w_FnExactNewConsole_5]
  refine callQ_of (PCall.arg (w_toRegister r hl) (by simp)) rfl (.inl (by simp)) (by simp) ?_
  simp
  refine callQ_of (PCall.arg (s_NewConsole r hl) (by simp)) rfl (.inl (by simp)) (by simp) ?_
  simp [r_w_FnExactNewConsole_6]
  refine callQ_of (PCall.arg (w_toRegister r hl) (by simp)) rfl (.inl (by simp)) (by simp) ?_
  simp [r_w_FnExactNewConsole_7]
  refine callQ_of (PCall.arg (i_NewConsole r hl) (by simp)) rfl (.inl (by simp)) (by simp) ?_
  simp [r_w_FnExactNewConsole_8]
  refine callQ_v (PCall.arg (w_eqConsole (newC r)) (by simp)) ?_
  simp
  simp [r_w_FnExactNewConsole_10, p_w_FnExactNewConsole_10]
  refine callD_of (PCall.arg (w_toRegister r hl) (by simp)) rfl (.inl (by simp)) ?_ ?_ ?_
  · simp
  · simp
  simp
  refine callD_v (PCall.arg (w_eqRegister r r) (by simp [List.take_of_length_le])) ?_ ?_ ?_
  · simp
  · simp
  simp
  refine ⟨oEnd_of (by simp [p_w_FnExactNewConsole_10]) (by simp), ?_⟩
  simp [r_w_FnExactNewConsole_12, r_w_FnExactNewConsole_13]
  refine callQ_m [26] (MCall.arg (w_markRegister r 1 (by omega) (by omega)) (by simp)) (by simp) (by simp) (by simp) (by simp) ?_
  have hk1 : ¬ (1 + 18 * (r.length : Int) < 0) := by omega
  simp [r_w_FnExactNewConsole_14, hk1]
  refine callQ_v (PCall.arg (w_eqConsole (newC r)) (by simp)) ?_
  simp
  simp [r_w_FnExactNewConsole_16, r_w_FnExactNewConsole_17]
  refine callQ_m [29] (MCall.arg (w_markConsole (newC r) 1 (by omega) (by omega)) (by simp)) (by simp) (by simp) (by simp) (by simp) ?_
  have hk2 : ¬ (1 + 18 * ((newC r).grants.length : Int) < 0) := by omega
  simp [r_w_FnExactNewConsole_18, r_w_FnExactNewConsole_19, hk2]
  refine callQ_v (PCall.arg (w_heldConsole_marks 1 (newC r).grants.length (newC r).log (by omega) (by omega)) (by simp [marksGrant_len, List.take_of_length_le])) ?_
  simp [r_w_FnExactNewConsole_20, r_w_FnExactNewConsole_22, hk2]
  simp [r_w_FnExactNewConsole_24]
  refine callQ_of (PCall.arg (w_toRegister r hl) (by simp)) rfl (.inl (by simp)) (by simp) ?_
  simp
  refine callQ_of (PCall.arg (i_NewConsole r hl) (by simp)) rfl (.inl (by simp)) (by simp) ?_
  simp [r_w_FnExactNewConsole_25]
  refine callQ_v (PCall.arg (w_eqConsole (newC r)) (by simp)) ?_
  simp
  simp [r_w_FnExactNewConsole_27, r_w_FnExactNewConsole_28]
  refine callQ_v (PCall.arg (w_heldConsole_marks 1 (newC r).grants.length (newC r).log (by omega) (by omega)) (by simp [marksGrant_len, List.take_of_length_le])) ?_
  simp [r_w_FnExactNewConsole_29, r_w_FnExactNewConsole_31, r_w_FnExactNewConsole_33, hk2]
end Go.Proofs.Ytcfmohcpfmedaaa
