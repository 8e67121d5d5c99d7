/- Consoles: how they lie, the laws' helpers. -/
import Derived.Test.YtcfmohcpfmedaaaCodeConsoleT
import Derived.Test.YtcfmohcpfmedaaaGrantRow
import Derived.Test.YtcfmohcpfmedaaaLogT
set_option linter.unusedVariables false
set_option linter.unusedSimpArgs false
namespace Go.Proofs.Ytcfmohcpfmedaaa
open Go.Abs

structure Console where
  grants : List Grant
  log : Log
  deriving DecidableEq
abbrev eConsole (c : Console) : V := .agg [.ro 18 (c.grants.map eGrant), S c.log.durable, S c.log.pending, I c.log.count]
abbrev oConsole (c : Console) : V := .agg [.own 18 (c.grants.map eGrant), S c.log.durable, S c.log.pending, I c.log.count]
theorem w_eqLog_cells (p : Log) : PCall Try.prog n_w_eqLog [.agg [S p.durable, S p.pending, I p.count], .agg [S p.durable, S p.pending, I p.count]] (B true) := by
  refine PCall.of fn_w_eqLog (by simp) ?_
  simp [c_w_eqLog, r_w_eqLog_0, r_w_eqLog_1, r_w_eqLog_3, r_w_eqLog_5, r_w_eqLog_7]
theorem w_eqConsole (c : Console) : PCall Try.prog n_w_eqConsole [eConsole c, eConsole c] (B true) := by
  refine PCall.of fn_w_eqConsole (by simp) ?_
  simp [c_w_eqConsole, r_w_eqConsole_0, r_w_eqConsole_1]
  refine callQ_v (PCall.arg (w_eqRegister c.grants c.grants) (by simp)) ?_
  simp [r_w_eqConsole_3]
  refine callQ_v (PCall.arg (w_eqLog_cells c.log) (by simp)) ?_
  simp [r_w_eqConsole_5]
theorem w_markRegister (l : Register) (k : Nat) (hl : l.length ≤ 1048576) (hk : k ≤ 1000000) :
    MCall Try.prog n_w_markRegister [⟨18, l.map eGrant⟩] [.agg [.sl (mid 0) 0 l.length], I k] (I ((k + 18 * l.length : Nat) : Int)) [some ⟨18, (marksGrant k l.length).map eGrant⟩] := by
  refine MCall.of fn_w_markRegister (by simp) rfl (by simp) ?_
  simp [c_w_markRegister, r_w_markRegister_0, r_w_markRegister_1]
  refine callQ_m [1000000] (MCall.arg (w_markGrantS l k hl hk) (by simp)) (by simp) (by simp) (by simp) (by simp) ?_
  simp [r_w_markRegister_2]
theorem w_markConsole (c : Console) (k : Nat) (hl : c.grants.length ≤ 1048576) (hk : k ≤ 1000000) :
    MCall Try.prog n_w_markConsole [⟨18, c.grants.map eGrant⟩] [.agg [.sl (mid 0) 0 c.grants.length, S c.log.durable, S c.log.pending, I c.log.count], I k] (I ((k + 18 * c.grants.length : Nat) : Int)) [some ⟨18, (marksGrant k c.grants.length).map eGrant⟩] := by
  refine MCall.of fn_w_markConsole (by simp) rfl (by simp) ?_
  simp [c_w_markConsole, r_w_markConsole_0, r_w_markConsole_1]
  refine callQ_m [1000000] (MCall.arg (w_markRegister c.grants k hl hk) (by simp)) (by simp) (by simp) (by simp) (by simp) ?_
  simp [r_w_markConsole_2]
theorem w_heldRegister_marks (k m : Nat) (hm : m ≤ 1048576) (hk : k ≤ 1000000) : PCall Try.prog n_w_heldRegister [eRegister (marksGrant k m), I k] (I ((k + 18 * m : Nat) : Int)) := by
  refine PCall.of fn_w_heldRegister (by simp) ?_
  simp [c_w_heldRegister, r_w_heldRegister_0, r_w_heldRegister_1]
  refine callQ_v (PCall.arg (w_heldGrantS_marks k m hm hk) (by simp)) ?_
  simp [r_w_heldRegister_2, r_w_heldRegister_3, r_w_heldRegister_4]
  omega
theorem w_heldConsole_marks (k m : Nat) (g : Log) (hm : m ≤ 1048576) (hk : k ≤ 1000000) : PCall Try.prog n_w_heldConsole [eConsole ⟨marksGrant k m, g⟩, I k] (I ((k + 18 * m : Nat) : Int)) := by
  refine PCall.of fn_w_heldConsole (by simp) ?_
  simp [c_w_heldConsole, r_w_heldConsole_0, r_w_heldConsole_1]
  refine callQ_v (PCall.arg (w_heldRegister_marks k m hm hk) (by simp)) ?_
  simp [r_w_heldConsole_2, r_w_heldConsole_3, r_w_heldConsole_4]
  omega
end Go.Proofs.Ytcfmohcpfmedaaa
