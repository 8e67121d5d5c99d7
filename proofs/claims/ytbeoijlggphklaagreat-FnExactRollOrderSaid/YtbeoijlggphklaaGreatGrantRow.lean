/- Rows of grants: the laws' marks (written by wip/tools/grantgen.py). -/
import Derived.Test.YtbeoijlggphklaaGreatCodeGrantRow
import Derived.Test.YtbeoijlggphklaaGreatGrant
import Derived.Test.YtbeoijlggphklaaGreatMarkText
set_option linter.unusedVariables false
set_option linter.unusedSimpArgs false
namespace Go.Proofs.YtbeoijlggphklaaGreat
open Go.Abs

/-- The marks of one. -/
def mkGrant (k : Nat) : Grant := ⟨((k : Nat) : Int), markT (k + 1), ((k + 2 : Nat) : Int), ⟨⟨((k + 3 : Nat) : Int), ((k + 4 : Nat) : Int), ((k + 5 : Nat) : Int), ((k + 6 : Nat) : Int)⟩, ((k + 7 : Nat) : Int), ((k + 8 : Nat) : Int), ((k + 9 : Nat) : Int), ⟨((k + 10 : Nat) : Int), ((k + 11 : Nat) : Int), ((k + 12 : Nat) : Int), ((k + 13 : Nat) : Int)⟩, ⟨((k + 14 : Nat) : Int), ((k + 15 : Nat) : Int), ((k + 16 : Nat) : Int), ((k + 17 : Nat) : Int)⟩⟩⟩
def marksGrant (k : Nat) (n : Nat) : List Grant := (List.range n).map fun i : Nat => mkGrant (k + 18 * i)
theorem marksGrant_len (k n : Nat) : (marksGrant k n).length = n := by simp [marksGrant]
theorem marksGrant_succ (k : Nat) (n : Nat) : marksGrant k (n + 1) = marksGrant k n ++ [mkGrant (k + 18 * n)] := by simp only [marksGrant, List.range_succ, List.map_append, List.map_cons, List.map_nil]
theorem marksGrant_get {k m i : Nat} (h : i < (marksGrant k m).length) : (marksGrant k m)[i] = mkGrant (k + 18 * i) := by simp [marksGrant]

set_option maxHeartbeats 4000000 in
theorem w_markGrantS (l : List Grant) (k : Nat) (hl : l.length ≤ 1048576) (hk : k ≤ 1000000) :
    MCall Tryz.prog n_w_markGrantS [⟨18, l.map eGrant⟩] [.sl (mid 0) 0 l.length, I k] (I ((k + 18 * l.length : Nat) : Int)) [some ⟨18, (marksGrant k l.length).map eGrant⟩] := by
  refine MCall.of fn_w_markGrantS (by simp) rfl (by simp) ?_
  simp [c_w_markGrantS, r_w_markGrantS_0, r_w_markGrantS_1, l_w_markGrantS_40]
  refine loopK (fun i : Nat => ⟨[(0, .sl 1000000 0 l.length), (1, I ((k + 18 * i : Nat) : Int)), (5, I i)], [(1000000, ⟨18, (marksGrant k i ++ l.drop i).map eGrant⟩)], [1000000]⟩) (fun i => l.length - i)
    (fun i => i ≤ l.length) 0 (Wk.list rfl (by simp) (by simp [marksGrant])) (by simp) ?_
  intro i hi K hN hR hE
  simp [r_w_markGrantS_2]
  have hml : (List.map eGrant (marksGrant k i)).length = i := by rw [List.length_map, marksGrant_len]
  refine ⟨fun hlt => ?_, fun hge => ?_⟩
  · have hd : (l.map eGrant).drop i = eGrant l[i] :: (l.map eGrant).drop (i + 1) := by rw [drop_cons (l := l.map eGrant) (by simpa using hlt)]; simp
    simp only [hd]
    simp [r_w_markGrantS_3, r_w_markGrantS_4, hlt, app_get hml, app_set hml]
    rw [wrap64 (by omega) (by omega)]
    simp [r_w_markGrantS_5]
    refine callQ_v (PCall.arg (w_markText (k + 18 * i + 1) (by omega)) (by simp)) ?_
    simp [r_w_markGrantS_6, hlt, app_get hml, app_set hml]
    rw [wrap64 (by omega) (by omega)]
    simp [r_w_markGrantS_7, r_w_markGrantS_8, hlt, app_get hml, app_set hml]
    rw [wrap64 (by omega) (by omega)]
    simp [r_w_markGrantS_9, r_w_markGrantS_10, hlt, app_get hml, app_set hml]
    rw [wrap64 (by omega) (by omega)]
    simp [r_w_markGrantS_11, r_w_markGrantS_12, hlt, app_get hml, app_set hml]
    rw [wrap64 (by omega) (by omega)]
    simp [r_w_markGrantS_13, r_w_markGrantS_14, hlt, app_get hml, app_set hml]
    rw [wrap64 (by omega) (by omega)]
    simp [r_w_markGrantS_15, r_w_markGrantS_16, hlt, app_get hml, app_set hml]
    rw [wrap64 (by omega) (by omega)]
    simp [r_w_markGrantS_17, r_w_markGrantS_18, hlt, app_get hml, app_set hml]
    rw [wrap64 (by omega) (by omega)]
    simp [r_w_markGrantS_19, r_w_markGrantS_20, hlt, app_get hml, app_set hml]
    rw [wrap64 (by omega) (by omega)]
    simp [r_w_markGrantS_21, r_w_markGrantS_22, hlt, app_get hml, app_set hml]
    rw [wrap64 (by omega) (by omega)]
    simp [r_w_markGrantS_23, r_w_markGrantS_24, hlt, app_get hml, app_set hml]
    rw [wrap64 (by omega) (by omega)]
    simp [r_w_markGrantS_25, r_w_markGrantS_26, hlt, app_get hml, app_set hml]
    rw [wrap64 (by omega) (by omega)]
    simp [r_w_markGrantS_27, r_w_markGrantS_28, hlt, app_get hml, app_set hml]
    rw [wrap64 (by omega) (by omega)]
    simp [r_w_markGrantS_29, r_w_markGrantS_30, hlt, app_get hml, app_set hml]
    rw [wrap64 (by omega) (by omega)]
    simp [r_w_markGrantS_31, r_w_markGrantS_32, hlt, app_get hml, app_set hml]
    rw [wrap64 (by omega) (by omega)]
    simp [r_w_markGrantS_33, r_w_markGrantS_34, hlt, app_get hml, app_set hml]
    rw [wrap64 (by omega) (by omega)]
    simp [r_w_markGrantS_35, r_w_markGrantS_36, hlt, app_get hml, app_set hml]
    rw [wrap64 (by omega) (by omega)]
    simp [r_w_markGrantS_37, r_w_markGrantS_38, hlt, app_get hml, app_set hml]
    rw [wrap64 (by omega) (by omega)]
    simp [r_w_markGrantS_39]
    rw [wrap64 (by omega) (by omega)]
    refine hN (i + 1) _ (by omega) (by omega) (Wk.list rfl ?_ ?_)
    · simp; omega
    · simp [marksGrant_succ, mkGrant, app_set hml]
      omega
  · refine hE _ _ ?_
    obtain rfl : i = l.length := by omega
    simp [r_w_markGrantS_41, marksGrant_len]

end Go.Proofs.YtbeoijlggphklaaGreat
