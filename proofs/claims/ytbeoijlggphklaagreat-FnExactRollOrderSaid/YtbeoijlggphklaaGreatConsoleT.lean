/- Consoles: how they lie, the laws' helpers. -/
import Derived.Test.YtbeoijlggphklaaGreatCodeConsoleT
import Derived.Test.YtbeoijlggphklaaGreatGrantRow
import Derived.Test.YtbeoijlggphklaaGreatEqLog
set_option linter.unusedVariables false
set_option linter.unusedSimpArgs false
namespace Go.Proofs.YtbeoijlggphklaaGreat
open Go.Abs

structure Console where
  grants : List Grant
  log : Log
  deriving DecidableEq
abbrev eConsole (c : Console) : V := .agg [.ro 18 (c.grants.map eGrant), S c.log.durable, S c.log.pending, I c.log.count]
abbrev oConsole (c : Console) : V := .agg [.own 18 (c.grants.map eGrant), S c.log.durable, S c.log.pending, I c.log.count]
theorem w_markRegister (l : Register) (k : Nat) (hl : l.length ≤ 1048576) (hk : k ≤ 1000000) :
    MCall Tryz.prog n_w_markRegister [⟨18, l.map eGrant⟩] [.agg [.sl (mid 0) 0 l.length], I k] (I ((k + 18 * l.length : Nat) : Int)) [some ⟨18, (marksGrant k l.length).map eGrant⟩] := by
  refine MCall.of fn_w_markRegister (by simp) rfl (by simp) ?_
  simp [c_w_markRegister, r_w_markRegister_0, r_w_markRegister_1]
  refine callQ_m [1000000] (MCall.arg (w_markGrantS l k hl hk) (by simp)) (by simp) (by simp) (by simp) (by simp) ?_
  simp [r_w_markRegister_2]
end Go.Proofs.YtbeoijlggphklaaGreat
