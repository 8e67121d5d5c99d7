/- Consoles: how they lie, the laws' helpers. -/
import Derived.Test.YtcfmohcpfmedaaaGreatDoorCodeConsoleT
import Derived.Test.YtcfmohcpfmedaaaGreatDoorGrantRow
import Derived.Test.YtcfmohcpfmedaaaGreatDoorEqLog
set_option linter.unusedVariables false
set_option linter.unusedSimpArgs false
namespace Go.Proofs.YtcfmohcpfmedaaaGreatDoor
open Go.Abs

structure Console where
  grants : List Grant
  log : Log
  deriving DecidableEq
abbrev eConsole (c : Console) : V := .agg [.ro 18 (c.grants.map eGrant), S c.log.durable, S c.log.pending, I c.log.count]
abbrev oConsole (c : Console) : V := .agg [.own 18 (c.grants.map eGrant), S c.log.durable, S c.log.pending, I c.log.count]
theorem w_eqConsole (c : Console) : PCall Tryz.prog n_w_eqConsole [eConsole c, eConsole c] (B true) := by
  refine PCall.of fn_w_eqConsole (by simp) ?_
  simp [c_w_eqConsole, r_w_eqConsole_0, r_w_eqConsole_1]
  refine callQ_v (PCall.arg (w_eqRegister c.grants c.grants) (by simp)) ?_
  simp [r_w_eqConsole_3]
  refine callQ_v (PCall.arg (w_eqLog c.log) (by simp)) ?_
  simp [r_w_eqConsole_5]
end Go.Proofs.YtcfmohcpfmedaaaGreatDoor
