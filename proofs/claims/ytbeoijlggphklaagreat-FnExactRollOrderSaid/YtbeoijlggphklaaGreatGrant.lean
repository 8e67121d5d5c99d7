/- Grants and rows of grants: how they lie, the laws' helpers. -/
import Derived.Test.YtbeoijlggphklaaGreatCodeGrant
import Derived.Test.YtbeoijlggphklaaGreatArms
set_option linter.unusedVariables false
set_option linter.unusedSimpArgs false
namespace Go.Proofs.YtbeoijlggphklaaGreat
open Go.Abs

structure Grant where
  number : Int
  name : List UInt8
  year : Int
  arms : Arms
  deriving DecidableEq
abbrev eGrant (g : Grant) : V := .agg [I g.number, S g.name, I g.year, I g.arms.field.division, I g.arms.field.line, I g.arms.field.first, I g.arms.field.second, I g.arms.ordinary, I g.arms.line, I g.arms.tincture,
  I g.arms.on.count, I g.arms.on.kind, I g.arms.on.attitude, I g.arms.on.tincture, I g.arms.around.count, I g.arms.around.kind, I g.arms.around.attitude, I g.arms.around.tincture]
abbrev Register := List Grant
abbrev eRegister (r : Register) : V := .agg [.ro 18 (r.map eGrant)]

theorem Field.eq_iff (p q : Field) : p = q ↔ p.division = q.division ∧ p.line = q.line ∧ p.first = q.first ∧ p.second = q.second := by
  cases p; cases q; simp
theorem w_eqField (p q : Field) : PCall Tryz.prog n_w_eqField [eField p, eField q] (B (decide (p = q))) := by
  refine PCall.of fn_w_eqField (by simp) ?_
  simp [c_w_eqField, r_w_eqField_0]
  by_cases h0 : p.division = q.division
  rotate_left
  · simp [r_w_eqField_1, r_w_eqField_2, h0, Field.eq_iff]
  simp [r_w_eqField_1, h0]
  by_cases h1 : p.line = q.line
  rotate_left
  · simp [r_w_eqField_3, r_w_eqField_4, h1, h0, Field.eq_iff]
  simp [r_w_eqField_3, h1]
  by_cases h2 : p.first = q.first
  rotate_left
  · simp [r_w_eqField_5, r_w_eqField_6, h2, h0, h1, Field.eq_iff]
  simp [r_w_eqField_5, h2]
  by_cases h3 : p.second = q.second
  rotate_left
  · simp [r_w_eqField_7, r_w_eqField_8, h3, h0, h1, h2, Field.eq_iff]
  simp [r_w_eqField_7, h3]
  simp [r_w_eqField_9, Field.eq_iff, h0, h1, h2, h3]
theorem Group.eq_iff (p q : Group) : p = q ↔ p.count = q.count ∧ p.kind = q.kind ∧ p.attitude = q.attitude ∧ p.tincture = q.tincture := by
  cases p; cases q; simp
theorem w_eqGroup (p q : Group) : PCall Tryz.prog n_w_eqGroup [eGroup p, eGroup q] (B (decide (p = q))) := by
  refine PCall.of fn_w_eqGroup (by simp) ?_
  simp [c_w_eqGroup, r_w_eqGroup_0]
  by_cases h0 : p.count = q.count
  rotate_left
  · simp [r_w_eqGroup_1, r_w_eqGroup_2, h0, Group.eq_iff]
  simp [r_w_eqGroup_1, h0]
  by_cases h1 : p.kind = q.kind
  rotate_left
  · simp [r_w_eqGroup_3, r_w_eqGroup_4, h1, h0, Group.eq_iff]
  simp [r_w_eqGroup_3, h1]
  by_cases h2 : p.attitude = q.attitude
  rotate_left
  · simp [r_w_eqGroup_5, r_w_eqGroup_6, h2, h0, h1, Group.eq_iff]
  simp [r_w_eqGroup_5, h2]
  by_cases h3 : p.tincture = q.tincture
  rotate_left
  · simp [r_w_eqGroup_7, r_w_eqGroup_8, h3, h0, h1, h2, Group.eq_iff]
  simp [r_w_eqGroup_7, h3]
  simp [r_w_eqGroup_9, Group.eq_iff, h0, h1, h2, h3]
theorem Arms.eq_iff (p q : Arms) : p = q ↔ p.field = q.field ∧ p.ordinary = q.ordinary ∧ p.line = q.line ∧ p.tincture = q.tincture ∧ p.on = q.on ∧ p.around = q.around := by
  cases p; cases q; simp
theorem w_eqArms (p q : Arms) : PCall Tryz.prog n_w_eqArms [eArms p, eArms q] (B (decide (p = q))) := by
  refine PCall.of fn_w_eqArms (by simp) ?_
  simp [c_w_eqArms, r_w_eqArms_0]
  simp [r_w_eqArms_1]
  refine callQ_v (PCall.arg (w_eqField p.field q.field) (by simp)) ?_
  by_cases h0 : p.field = q.field
  rotate_left
  · simp [r_w_eqArms_2, h0, Arms.eq_iff]
  simp [h0]
  by_cases h1 : p.ordinary = q.ordinary
  rotate_left
  · simp [r_w_eqArms_3, r_w_eqArms_4, h1, h0, Arms.eq_iff]
  simp [r_w_eqArms_3, h1]
  by_cases h2 : p.line = q.line
  rotate_left
  · simp [r_w_eqArms_5, r_w_eqArms_6, h2, h0, h1, Arms.eq_iff]
  simp [r_w_eqArms_5, h2]
  by_cases h3 : p.tincture = q.tincture
  rotate_left
  · simp [r_w_eqArms_7, r_w_eqArms_8, h3, h0, h1, h2, Arms.eq_iff]
  simp [r_w_eqArms_7, h3]
  simp [r_w_eqArms_9]
  refine callQ_v (PCall.arg (w_eqGroup p.on q.on) (by simp)) ?_
  by_cases h4 : p.on = q.on
  rotate_left
  · simp [r_w_eqArms_10, h4, h0, h1, h2, h3, Arms.eq_iff]
  simp [h4]
  simp [r_w_eqArms_11]
  refine callQ_v (PCall.arg (w_eqGroup p.around q.around) (by simp)) ?_
  by_cases h5 : p.around = q.around
  rotate_left
  · simp [r_w_eqArms_12, h5, h0, h1, h2, h3, h4, Arms.eq_iff]
  simp [h5]
  simp [r_w_eqArms_13, Arms.eq_iff, h0, h1, h2, h3, h4, h5]
theorem Grant.eq_iff (p q : Grant) : p = q ↔ p.number = q.number ∧ p.name = q.name ∧ p.year = q.year ∧ p.arms = q.arms := by
  cases p; cases q; simp
theorem w_eqGrant (p q : Grant) : PCall Tryz.prog n_w_eqGrant [eGrant p, eGrant q] (B (decide (p = q))) := by
  refine PCall.of fn_w_eqGrant (by simp) ?_
  simp [c_w_eqGrant, r_w_eqGrant_0]
  by_cases h0 : p.number = q.number
  rotate_left
  · simp [r_w_eqGrant_1, r_w_eqGrant_2, h0, Grant.eq_iff]
  simp [r_w_eqGrant_1, h0]
  by_cases h1 : p.name = q.name
  rotate_left
  · simp [r_w_eqGrant_3, r_w_eqGrant_4, h1, h0, Grant.eq_iff]
  simp [r_w_eqGrant_3, h1]
  by_cases h2 : p.year = q.year
  rotate_left
  · simp [r_w_eqGrant_5, r_w_eqGrant_6, h2, h0, h1, Grant.eq_iff]
  simp [r_w_eqGrant_5, h2]
  simp [r_w_eqGrant_7]
  refine callQ_v (PCall.arg (w_eqArms p.arms q.arms) (by simp)) ?_
  by_cases h3 : p.arms = q.arms
  rotate_left
  · simp [r_w_eqGrant_8, h3, h0, h1, h2, Grant.eq_iff]
  simp [h3]
  simp [r_w_eqGrant_9, Grant.eq_iff, h0, h1, h2, h3]
theorem w_eqGrantS (a b : List Grant) : PCall Tryz.prog n_w_eqGrantS [.ro 18 (a.map eGrant), .ro 18 (b.map eGrant)] (B (decide (a = b))) := by
  refine PCall.ofL fn_w_eqGrantS (by simp) fun hl => ?_
  simp at hl
  by_cases hl : a.length = b.length
  · simp [c_w_eqGrantS, r_w_eqGrantS_0, r_w_eqGrantS_1, r_w_eqGrantS_2, r_w_eqGrantS_3, r_w_eqGrantS_9, hl]
    refine loopK (fun i : Nat => ⟨[(0, .ro 18 (a.map eGrant)), (1, .ro 18 (b.map eGrant)), (5, I i)], [], []⟩) (fun i => a.length - i) (fun i => i ≤ a.length ∧ a.take i = b.take i) 0 (Wk.list rfl (by simp) (by simp)) (by simp) ?_
    rintro i ⟨hi, hj⟩ K hN hR hE
    simp [l_w_eqGrantS_8, r_w_eqGrantS_4]
    refine ⟨fun hlt => ?_, fun hge => ?_⟩
    · have hlb : i < b.length := by omega
      simp [r_w_eqGrantS_5, p_w_eqGrantS_5, hlt, hlb]
      refine callD_v (w_eqGrant a[i] b[i]) ?_ ?_ ?_
      · simp
      · simp
      simp
      refine ⟨oEnd_of (by first | kernel_rfl | simp) (by first | kernel_rfl | simp), fun hne => ?_, fun he => ?_⟩
      · simp [r_w_eqGrantS_6]
        refine hR _ ?_
        simp
        rintro rfl
        exact hne rfl
      · simp [r_w_eqGrantS_7]
        rw [wrap64 (by omega) (by omega)]
        refine hN (i + 1) _ (by omega) ⟨by omega, ?_⟩ (Wk.list rfl (by simp) (by simp))
        rw [take_succ' hlt, take_succ' hlb, hj, he]
    · refine hE _ _ ?_
      rw [List.take_of_length_le (by omega), List.take_of_length_le (by omega)] at hj
      simp [hj]
  · simp [c_w_eqGrantS, r_w_eqGrantS_0, r_w_eqGrantS_1, r_w_eqGrantS_2, hl]
    refine ⟨fun _ e => hl (by rw [e]), fun e => absurd (by omega) hl⟩
theorem w_eqRegister (a b : Register) : PCall Tryz.prog n_w_eqRegister [eRegister a, eRegister b] (B (decide (a = b))) := by
  refine PCall.of fn_w_eqRegister (by simp) ?_
  simp [c_w_eqRegister, r_w_eqRegister_0, r_w_eqRegister_1]
  refine callQ_v (PCall.arg (w_eqGrantS a b) (by simp)) ?_
  by_cases h : a = b
  · simp [r_w_eqRegister_3, h]
  · simp [r_w_eqRegister_2, h]

theorem w_toGrant (g : Grant) : PCall Tryz.prog n_w_toGrant [eGrant g] (eGrant g) := by
  refine PCall.of fn_w_toGrant (by simp) ?_
  simp [c_w_toGrant, r_w_toGrant_0, r_w_toGrant_1, r_w_toGrant_2, r_w_toGrant_3, r_w_toGrant_4, r_w_toGrant_5]
  refine callQ_of (PCall.arg (w_toArms g.arms) (by simp)) rfl (.inl (by simp)) (by simp) ?_
  simp [r_w_toGrant_6]
theorem w_szGrant (g : Grant) (left : Int) (h0 : 0 ≤ left) (h1 : left ≤ 1048576) : PCall Tryz.prog n_w_szGrant [eGrant g, I left] (I (rest left g.name.length)) := by
  refine PCall.ofL fn_w_szGrant (by simp) fun hl => ?_
  simp [lenPs, lenP] at hl
  simp [c_w_szGrant, r_w_szGrant_0, r_w_szGrant_1]
  rw [wrap64 (by omega) (by omega)]
  simp [r_w_szGrant_2, r_w_szGrant_3, r_w_szGrant_4, rest]
  constructor <;> intros <;> omega
/-- How much of a budget grants take. -/
def szG (l : List Grant) : Nat := l.length + total (l.map Grant.name)
theorem w_szGrantS (l : List Grant) (left : Int) (h0 : 0 ≤ left) (h1 : left ≤ 1048576) : PCall Tryz.prog n_w_szGrantS [.ro 18 (l.map eGrant), I left] (I (rest left (szG l))) := by
  refine PCall.ofL fn_w_szGrantS (by simp) fun hl => ?_
  simp at hl
  simp [r_w_szGrantS_0, r_w_szGrantS_1, c_w_szGrantS]
  rw [wrap64 (by omega) (by omega)]
  simp [r_w_szGrantS_2]
  refine ⟨fun hneg => ?_, fun hge => ?_⟩
  · simp [r_w_szGrantS_3, rest, szG]
    omega
  simp [r_w_szGrantS_4, r_w_szGrantS_11]
  refine loopQ_ix (fun i : Nat => ⟨[(0, .ro 18 (l.map eGrant)), (1, I (left - l.length - total ((l.map Grant.name).take i))), (5, I i)], [], []⟩) (fun i => l.length - i) (fun i => i ≤ l.length ∧ l.length + total ((l.map Grant.name).take i) ≤ left) 0 (Wk.list rfl (by simp) (by simp)) ⟨by simp, by simp; omega⟩ ?_
  rintro i ⟨hi, hb⟩
  simp [l_w_szGrantS_10, r_w_szGrantS_5]
  refine ⟨fun hlt => ?_, fun hge => ?_⟩
  · simp [r_w_szGrantS_6, hlt]
    refine callQ_v (w_szGrant l[i] (left - l.length - total ((l.map Grant.name).take i)) (by omega) (by omega)) ?_
    have e : total ((l.map Grant.name).take (i + 1)) = total ((l.map Grant.name).take i) + l[i].name.length := by rw [take_succ' (by simpa using hlt), total_append, total_cons, total_nil]; simp
    have hle : total ((l.map Grant.name).take (i + 1)) ≤ total (l.map Grant.name) := total_take_le _ _
    simp [r_w_szGrantS_7]
    refine ⟨fun hneg => ?_, fun hpos => ?_⟩
    · simp [r_w_szGrantS_8]
      unfold rest at hneg ⊢
      unfold szG
      split at hneg <;> split <;> omega
    · simp [r_w_szGrantS_9]
      have := rest_nonneg (by omega : ¬ rest (left - l.length - total ((l.map Grant.name).take i)) l[i].name.length < 0)
      rw [wrap64 (by omega) (by omega)]
      refine roundA_of (i + 1) (by omega) ⟨by omega, by omega⟩ (Wk.list rfl ?_ (by simp))
      simp only [rest, e]
      rw [if_neg (by omega)]
      simp
      omega
  · obtain rfl : i = l.length := by omega
    rw [List.take_of_length_le (by simp)] at hb ⊢
    unfold rest szG
    rw [if_neg (by omega)]
    omega
theorem w_szRegister (l : Register) (left : Int) (h0 : 0 ≤ left) (h1 : left ≤ 1048576) : PCall Tryz.prog n_w_szRegister [eRegister l, I left] (I (rest left (szG l))) := by
  refine PCall.of fn_w_szRegister (by simp) ?_
  simp [c_w_szRegister, r_w_szRegister_0, r_w_szRegister_1]
  refine callQ_v (PCall.arg (w_szGrantS l left h0 h1) (by simp)) ?_
  simp [r_w_szRegister_2, r_w_szRegister_3, r_w_szRegister_4]
  intro h
  unfold rest at h ⊢
  split at h
  · rename_i h'; rw [if_pos h']
  · rename_i h'; rw [if_neg h']; omega

theorem w_toGrantS (l : List Grant) (hl : l.length ≤ 1048576) : PCall Tryz.prog n_w_toGrantS [.ro 18 (l.map eGrant)] (.own 18 (l.map eGrant)) := by
  refine PCall.of fn_w_toGrantS (by simp) ?_
  simp [c_w_toGrantS, r_w_toGrantS_0, r_w_toGrantS_1, r_w_toGrantS_2, lenBound]
  refine ⟨by omega, ?_⟩
  simp [r_w_toGrantS_7]
  refine loopK (fun i : Nat => ⟨[(0, .ro 18 (l.map eGrant)), (3, .sl 7 0 l.length), (4, I i)], [(7, ⟨18, (l.map eGrant).take i ++ List.replicate (l.length - i) (.agg [I 0, S [], I 0, I 0, I 0, I 0, I 0, I 0, I 0, I 0, I 0, I 0, I 0, I 0, I 0, I 0, I 0, I 0])⟩)], []⟩) (fun i => l.length - i) (fun i => i ≤ l.length) 0 (Wk.list rfl (by simp) (by simp)) (by simp) ?_
  intro i hi K hN hR hE
  have hlen : ((l.map eGrant).take i).length = i := by simp; omega
  simp [l_w_toGrantS_6, r_w_toGrantS_3]
  refine ⟨fun hlt => ?_, fun hge => ?_⟩
  · simp [r_w_toGrantS_4, hlt]
    refine callQ_of (w_toGrant l[i]) rfl (.inl (by simp)) (by simp) ?_
    simp [half_get hlen hlt, hlt]
    simp [r_w_toGrantS_5]
    rw [wrap64 (by omega) (by omega)]
    refine hN (i + 1) _ (by omega) (by omega) (Wk.list rfl (by simp) ?_)
    simp [half_set hlen hlt, take_succ', hlt]
  · refine hE _ _ ?_
    obtain rfl : i = l.length := by omega
    simp
abbrev oRegister (r : Register) : V := .agg [.own 18 (r.map eGrant)]
theorem w_toRegister (l : Register) (hl : l.length ≤ 1048576) : PCall Tryz.prog n_w_toRegister [eRegister l] (oRegister l) := by
  refine PCall.of fn_w_toRegister (by simp) ?_
  simp [c_w_toRegister, r_w_toRegister_0, r_w_toRegister_1, r_w_toRegister_2]
  refine callQ_of (PCall.arg (w_toGrantS l hl) (by simp)) rfl (.inl (by simp)) (by simp) ?_
  simp [r_w_toRegister_3]
end Go.Proofs.YtbeoijlggphklaaGreat
