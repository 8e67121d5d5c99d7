/- Fields, groups of charges, arms: the tests, the layers; in the program and in the reference. -/
import Derived.Test.YtbeoijlggphklaaGreatCodeArms
import Derived.Test.YtbeoijlggphklaaGreatBanner
set_option linter.unusedVariables false
set_option linter.unusedSimpArgs false
namespace Go.Proofs.YtbeoijlggphklaaGreat
open Go.Abs

structure Field where
  division : Int
  line : Int
  first : Int
  second : Int
  deriving DecidableEq
structure Group where
  count : Int
  kind : Int
  attitude : Int
  tincture : Int
  deriving DecidableEq
structure Arms where
  field : Field
  ordinary : Int
  line : Int
  tincture : Int
  on : Group
  around : Group
  deriving DecidableEq
abbrev eField (f : Field) : V := .agg [I f.division, I f.line, I f.first, I f.second]
abbrev eGroup (g : Group) : V := .agg [I g.count, I g.kind, I g.attitude, I g.tincture]
abbrev eArms (a : Arms) : V := .agg [I a.field.division, I a.field.line, I a.field.first, I a.field.second, I a.ordinary, I a.line, I a.tincture,
  I a.on.count, I a.on.kind, I a.on.attitude, I a.on.tincture, I a.around.count, I a.around.kind, I a.around.attitude, I a.around.tincture]

theorem w_toField (f : Field) : PCall Tryz.prog n_w_toField [eField f] (eField f) := by
  refine PCall.of fn_w_toField (by simp) ?_
  simp [c_w_toField, r_w_toField_0, r_w_toField_1, r_w_toField_2, r_w_toField_3, r_w_toField_4, r_w_toField_5, r_w_toField_6]
theorem w_toGroup (g : Group) : PCall Tryz.prog n_w_toGroup [eGroup g] (eGroup g) := by
  refine PCall.of fn_w_toGroup (by simp) ?_
  simp [c_w_toGroup, r_w_toGroup_0, r_w_toGroup_1, r_w_toGroup_2, r_w_toGroup_3, r_w_toGroup_4, r_w_toGroup_5, r_w_toGroup_6]
theorem w_toArms (a : Arms) : PCall Tryz.prog n_w_toArms [eArms a] (eArms a) := by
  refine PCall.of fn_w_toArms (by simp) ?_
  simp [c_w_toArms, r_w_toArms_0, r_w_toArms_1, r_w_toArms_2]
  refine callQ_of (PCall.arg (w_toField a.field) (by simp)) rfl (.inl (by simp)) (by simp) ?_
  simp [r_w_toArms_3, r_w_toArms_4, r_w_toArms_5, r_w_toArms_6]
  refine callQ_of (PCall.arg (w_toGroup a.on) (by simp)) rfl (.inl (by simp)) (by simp) ?_
  simp [r_w_toArms_7]
  refine callQ_of (PCall.arg (w_toGroup a.around) (by simp)) rfl (.inl (by simp)) (by simp) ?_
  simp [r_w_toArms_8]

/-! ### The tests -/
def fieldOk (f : Field) : Bool := inR f.division 0 7 && inR f.line 0 4 && inR f.first 1 9 && (if f.division = 0 then f.line == 0 && f.second == 0 else inR f.second 1 9 && f.second != f.first)
def groupOk (g : Group) : Bool := inR g.count 1 6 && inR g.kind 1 8 && inR g.tincture 1 9 && (if g.kind ≤ 3 then inR g.attitude 1 2 else g.attitude == 0)
/-- No group. -/
def g0 (g : Group) : Bool := g.count == 0 && (g.kind == 0 && (g.attitude == 0 && g.tincture == 0))
def arms (a : Arms) : Bool := fieldOk a.field && (g0 a.around || groupOk a.around) && (if a.ordinary = 0 then a.line == 0 && a.tincture == 0 && g0 a.on else inR a.ordinary 1 7 && inR a.line 0 4 && inR a.tincture 1 9 && (g0 a.on || groupOk a.on))
def bit (b : Bool) : Int := if b then 1 else 0
def layers (a : Arms) : Int := 1 + bit (a.ordinary != 0) + bit (!g0 a.on) + bit (!g0 a.around)
theorem layers_bounds (a : Arms) : 1 ≤ layers a ∧ layers a ≤ 4 := by
  unfold layers bit
  split <;> split <;> split <;> omega

theorem i_isLine (x : Int) : PCall Tryz.prog n_i_isLine [I x] (B (inR x 0 4)) := by
  refine PCall.of fn_i_isLine (by simp) ?_
  simp [c_i_isLine, r_i_isLine_0, r_i_isLine_1]
  exact callQ_v (i_inside ..) (by simp)
theorem i_isKind (x : Int) : PCall Tryz.prog n_i_isKind [I x] (B (inR x 1 8)) := by
  refine PCall.of fn_i_isKind (by simp) ?_
  simp [c_i_isKind, r_i_isKind_0, r_i_isKind_1]
  exact callQ_v (i_inside ..) (by simp)
theorem s_l3Line (x : Int) : PCall Tryz.prog n_s_l3Line [I x] (B (inR x 0 4)) := by
  refine PCall.of fn_s_l3Line (by simp) ?_
  simp [c_s_l3Line, r_s_l3Line_0, r_s_l3Line_1]
  exact callQ_v (s_l1In ..) (by simp)
theorem s_l4Kind (x : Int) : PCall Tryz.prog n_s_l4Kind [I x] (B (inR x 1 8)) := by
  refine PCall.of fn_s_l4Kind (by simp) ?_
  simp [c_s_l4Kind, r_s_l4Kind_0, r_s_l4Kind_1]
  exact callQ_v (s_l1In ..) (by simp)
theorem s_l4Beast (x : Int) : PCall Tryz.prog n_s_l4Beast [I x] (B (decide (x ≤ 3))) := by
  refine PCall.of fn_s_l4Beast (by simp) ?_
  simp [c_s_l4Beast, r_s_l4Beast_0, r_s_l4Beast_1]
theorem s_l4None (g : Group) : PCall Tryz.prog n_s_l4None [eGroup g] (B (g0 g)) := by
  refine PCall.of fn_s_l4None (by simp) ?_
  simp [c_s_l4None, r_s_l4None_0, r_s_l4None_1, g0]
theorem i_number (b : Bool) : PCall Tryz.prog n_i_number [B b] (I (bit b)) := by
  refine PCall.of fn_i_number (by simp) ?_
  cases b <;> simp [c_i_number, r_i_number_0, r_i_number_1, r_i_number_2, r_i_number_3, bit]

/-- The words of the attitudes of a kind. -/
def attitudes (k : Int) : List (List UInt8) := if k = 1 then [[114, 97, 109, 112, 97, 110, 116], [112, 97, 115, 115, 97, 110, 116]] else if k = 2 then [[100, 105, 115, 112, 108, 97, 121, 101, 100], [114, 105, 115, 105, 110, 103]] else if k = 3 then [[115, 119, 105, 109, 109, 105, 110, 103], [117, 112, 114, 105, 103, 104, 116]] else []
theorem attitudes_len (k : Int) : ((attitudes k).length : Int) = if 1 ≤ k ∧ k ≤ 3 then 2 else 0 := by
  unfold attitudes
  split
  · rw [if_pos (by omega)]; rfl
  · split
    · rw [if_pos (by omega)]; rfl
    · split
      · rw [if_pos (by omega)]; rfl
      · rw [if_neg (by omega)]; rfl
theorem i_attitudes (k : Int) : PCall Tryz.prog n_i_attitudes [I k] (.own 1 ((attitudes k).map S)) := by
  refine PCall.of fn_i_attitudes (by simp) ?_
  by_cases h1 : k = 1
  · simp [c_i_attitudes, r_i_attitudes_0, r_i_attitudes_1, r_i_attitudes_2, r_i_attitudes_3, r_i_attitudes_4, r_i_attitudes_5, r_i_attitudes_6, r_i_attitudes_7, r_i_attitudes_8, h1, attitudes]
  by_cases h2 : k = 2
  · simp [c_i_attitudes, r_i_attitudes_0, r_i_attitudes_1, r_i_attitudes_2, r_i_attitudes_3, r_i_attitudes_4, r_i_attitudes_5, r_i_attitudes_6, r_i_attitudes_7, r_i_attitudes_8, h2, attitudes]
  by_cases h3 : k = 3
  · simp [c_i_attitudes, r_i_attitudes_0, r_i_attitudes_1, r_i_attitudes_2, r_i_attitudes_3, r_i_attitudes_4, r_i_attitudes_5, r_i_attitudes_6, r_i_attitudes_7, r_i_attitudes_8, h3, attitudes]
  simp [c_i_attitudes, r_i_attitudes_0, r_i_attitudes_1, r_i_attitudes_2, r_i_attitudes_3, r_i_attitudes_4, r_i_attitudes_5, r_i_attitudes_6, r_i_attitudes_7, r_i_attitudes_8, h1, h2, h3, attitudes]

theorem s_l3Good (f : Field) : PCall Tryz.prog n_s_l3Good [eField f] (B (fieldOk f)) := by
  refine PCall.of fn_s_l3Good (by simp) ?_
  simp [c_s_l3Good, r_s_l3Good_0, r_s_l3Good_1]
  refine callQ_v (s_l1In ..) ?_
  cases h1 : inR f.division 0 7 with
  | false => simp [r_s_l3Good_2, fieldOk, h1]
  | true =>
  simp
  refine callQ_v (s_l3Line ..) ?_
  cases h2 : inR f.line 0 4 with
  | false => simp [r_s_l3Good_2, fieldOk, h2]
  | true =>
  simp
  refine callQ_v (s_l2Good ..) ?_
  cases h3 : inR f.first 1 9 with
  | false => simp [r_s_l3Good_2, fieldOk, h3]
  | true =>
  simp [r_s_l3Good_3]
  refine ⟨fun h4 => ?_, fun h4 => ?_⟩
  · by_cases h5 : f.line = 0
    · simp [r_s_l3Good_4, fieldOk, h1, h2, h3, h4, h5, show inR 0 0 7 = true from rfl, show inR 0 0 4 = true from rfl]
    · simp [r_s_l3Good_4, fieldOk, h1, h2, h3, h4, h5]
  · simp [r_s_l3Good_5]
    refine callQ_v (s_l2Good ..) ?_
    cases h5 : inR f.second 1 9 with
    | false => simp [fieldOk, h1, h2, h3, h4, h5]
    | true =>
      simp [fieldOk, h1, h2, h3, h4, h5]

theorem i_IsValidField (f : Field) : PCall Tryz.prog n_i_IsValidField [eField f] (B (fieldOk f)) := by
  refine PCall.of fn_i_IsValidField (by simp) ?_
  simp [c_i_IsValidField, r_i_IsValidField_0, r_i_IsValidField_1]
  refine callQ_v (i_inside ..) ?_
  cases h1 : inR f.division 0 7 with
  | false => simp [r_i_IsValidField_2, fieldOk, h1]
  | true =>
  simp
  refine callQ_v (i_isLine ..) ?_
  cases h2 : inR f.line 0 4 with
  | false => simp [r_i_IsValidField_2, fieldOk, h2]
  | true =>
  simp
  refine callQ_v (i_IsTincture ..) ?_
  cases h3 : inR f.first 1 9 with
  | false => simp [r_i_IsValidField_2, fieldOk, h3]
  | true =>
  simp [r_i_IsValidField_3]
  refine ⟨fun h4 => ?_, fun h4 => ?_⟩
  · by_cases h5 : f.line = 0
    · simp [r_i_IsValidField_4, fieldOk, h1, h2, h3, h4, h5, show inR 0 0 7 = true from rfl, show inR 0 0 4 = true from rfl]
    · simp [r_i_IsValidField_4, fieldOk, h1, h2, h3, h4, h5]
  · simp [r_i_IsValidField_5]
    refine callQ_v (i_IsTincture ..) ?_
    cases h5 : inR f.second 1 9 with
    | false => simp [fieldOk, h1, h2, h3, h4, h5]
    | true =>
      simp [fieldOk, h1, h2, h3, h4, h5]

theorem s_l4Group (g : Group) : PCall Tryz.prog n_s_l4Group [eGroup g] (B (groupOk g)) := by
  refine PCall.of fn_s_l4Group (by simp) ?_
  simp [c_s_l4Group, r_s_l4Group_0, r_s_l4Group_1]
  refine callQ_v (s_l1In ..) ?_
  cases h1 : inR g.count 1 6 with
  | false => simp [r_s_l4Group_2, groupOk, h1]
  | true =>
  simp
  refine callQ_v (s_l4Kind ..) ?_
  cases h2 : inR g.kind 1 8 with
  | false => simp [r_s_l4Group_2, groupOk, h2]
  | true =>
  simp
  refine callQ_v (s_l2Good ..) ?_
  cases h3 : inR g.tincture 1 9 with
  | false => simp [r_s_l4Group_2, groupOk, h3]
  | true =>
  simp [r_s_l4Group_3]
  refine callQ_v (s_l4Beast ..) ?_
  simp
  refine ⟨fun h4 => ?_, fun h4 => ?_⟩
  · simp [r_s_l4Group_4]
    refine callQ_v (s_l1In ..) ?_
    simp [groupOk, h1, h2, h3, h4]
  · have h4' : ¬ g.kind ≤ 3 := by omega
    simp [r_s_l4Group_5, groupOk, h1, h2, h3, h4']

theorem i_IsValidGroup (g : Group) : PCall Tryz.prog n_i_IsValidGroup [eGroup g] (B (groupOk g)) := by
  refine PCall.of fn_i_IsValidGroup (by simp) ?_
  simp [c_i_IsValidGroup, r_i_IsValidGroup_0, r_i_IsValidGroup_1]
  refine callQ_v (i_inside ..) ?_
  cases h1 : inR g.count 1 6 with
  | false => simp [r_i_IsValidGroup_2, groupOk, h1]
  | true =>
  simp
  refine callQ_v (i_isKind ..) ?_
  cases h2 : inR g.kind 1 8 with
  | false => simp [r_i_IsValidGroup_2, groupOk, h2]
  | true =>
  have h2' := inR_iff.1 h2
  simp
  refine callQ_v (i_IsTincture ..) ?_
  cases h3 : inR g.tincture 1 9 with
  | false => simp [r_i_IsValidGroup_2, groupOk, h3]
  | true =>
  simp [r_i_IsValidGroup_3]
  have hl := attitudes_len g.kind
  have hc := i_attitudes g.kind
  generalize attitudes g.kind = l at hl hc
  refine callQ_of (PCall.arg hc (by simp)) rfl (.inl (by simp)) (by simp) ?_
  simp [hl]
  by_cases h4 : g.kind ≤ 3
  · simp [r_i_IsValidGroup_4, r_i_IsValidGroup_5, hl, h2', h4]
    refine callQ_v (i_inside ..) ?_
    simp [groupOk, h1, h2, h3, h4]
  · simp [r_i_IsValidGroup_4, hl, h2', h4]
    simp [r_i_IsValidGroup_6, groupOk, h1, h2, h3, h4]

theorem i_isGroup (g : Group) : PCall Tryz.prog n_i_isGroup [eGroup g] (B (g0 g || groupOk g)) := by
  refine PCall.of fn_i_isGroup (by simp) ?_
  cases h : g0 g with
  | true =>
    have e : (g.count == 0 && (g.kind == 0 && (g.attitude == 0 && g.tincture == 0))) = true := h
    simp only [Bool.and_eq_true, beq_iff_eq] at e
    obtain ⟨e1, e2, e3, e4⟩ := e
    simp [c_i_isGroup, r_i_isGroup_0, r_i_isGroup_1, e1, e2, e3, e4]
  | false =>
    have e : (g.count == 0 && (g.kind == 0 && (g.attitude == 0 && g.tincture == 0))) = false := h
    simp [c_i_isGroup, r_i_isGroup_0, r_i_isGroup_1, e]
    exact callQ_v (PCall.arg (i_IsValidGroup g) (by simp)) (by simp)
theorem i_isOrdinary (x l t : Int) : PCall Tryz.prog n_i_isOrdinary [I x, I l, I t] (B (inR x 1 7 && inR l 0 4 && inR t 1 9)) := by
  refine PCall.of fn_i_isOrdinary (by simp) ?_
  simp [c_i_isOrdinary, r_i_isOrdinary_0, r_i_isOrdinary_1]
  refine callQ_v (i_inside ..) ?_
  cases h1 : inR x 1 7 with
  | false => simp
  | true =>
  simp
  refine callQ_v (i_isLine ..) ?_
  cases h2 : inR l 0 4 with
  | false => simp
  | true =>
  simp
  exact callQ_v (i_IsTincture ..) (by simp)

theorem i_IsValidArms (a : Arms) : PCall Tryz.prog n_i_IsValidArms [eArms a] (B (arms a)) := by
  refine PCall.of fn_i_IsValidArms (by simp) ?_
  simp [c_i_IsValidArms, r_i_IsValidArms_0, r_i_IsValidArms_1]
  refine callQ_v (PCall.arg (i_IsValidField a.field) (by simp)) ?_
  cases h1 : fieldOk a.field with
  | false => simp [r_i_IsValidArms_2, arms, h1]
  | true =>
  simp
  refine callQ_v (PCall.arg (i_isGroup a.around) (by simp)) ?_
  cases h2 : (g0 a.around || groupOk a.around) with
  | false => simp [r_i_IsValidArms_2, arms, h2]
  | true =>
  simp [r_i_IsValidArms_3]
  refine ⟨fun h3 => ?_, fun h3 => ?_⟩
  · have e : (a.on.count == 0 && (a.on.kind == 0 && (a.on.attitude == 0 && a.on.tincture == 0))) = g0 a.on := rfl
    by_cases h4 : a.line = 0
    · by_cases h5 : a.tincture = 0
      · simp [r_i_IsValidArms_4, h4, h5, e]
        simp [arms, h1, h2, h3, h4, h5]
      · simp [r_i_IsValidArms_4, h4, h5, arms, h3]
    · simp [r_i_IsValidArms_4, h4, arms, h3]
  · simp [r_i_IsValidArms_5]
    refine callQ_v (i_isOrdinary ..) ?_
    cases h4 : (inR a.ordinary 1 7 && inR a.line 0 4 && inR a.tincture 1 9) with
    | false =>
      have : arms a = false := by simp only [arms, h3, if_false, h4, Bool.false_and, Bool.and_false]
      simp [this]
    | true =>
      simp
      refine callQ_v (PCall.arg (i_isGroup a.on) (by simp)) ?_
      have : arms a = (g0 a.on || groupOk a.on) := by simp only [arms, h1, h2, h3, if_false, h4, Bool.true_and]
      simp [this]

theorem s_l5Good (a : Arms) : PCall Tryz.prog n_s_l5Good [eArms a] (B (arms a)) := by
  refine PCall.of fn_s_l5Good (by simp) ?_
  simp [c_s_l5Good, r_s_l5Good_0, r_s_l5Good_1]
  refine callQ_v (PCall.arg (s_l3Good a.field) (by simp)) ?_
  cases h1 : fieldOk a.field with
  | false => simp [r_s_l5Good_2, arms, h1]
  | true =>
  simp
  refine callQ_v (s_l1In ..) ?_
  cases h0 : inR a.ordinary 0 7 with
  | false =>
    have h0' := inR_not.1 h0
    have h3 : ¬ a.ordinary = 0 := by omega
    have h4 : inR a.ordinary 1 7 = false := inR_not.2 (by omega)
    simp [r_s_l5Good_2, arms, h3, h4]
  | true =>
  have h0' := inR_iff.1 h0
  simp
  refine callQ_v (PCall.arg (s_l4None a.around) (by simp)) ?_
  cases hN : g0 a.around with
  | true =>
    have hA : (g0 a.around || groupOk a.around) = true := by rw [hN]; rfl
    simp [r_s_l5Good_3]
    refine ⟨fun h3 => ?_, fun h3 => ?_⟩
    · by_cases h4 : a.line = 0
      · by_cases h5 : a.tincture = 0
        · simp [r_s_l5Good_4, h4, h5]
          refine callQ_v (PCall.arg (s_l4None a.on) (by simp)) ?_
          simp [arms, h1, hA, h3, h4, h5]
        · simp [r_s_l5Good_4, h4, h5, arms, h3]
      · simp [r_s_l5Good_4, h4, arms, h3]
    · have h0 : inR a.ordinary 1 7 = true := inR_iff.2 (by omega)
      simp [r_s_l5Good_5]
      refine callQ_v (s_l3Line ..) ?_
      cases h4 : inR a.line 0 4 with
      | false => simp [arms, h3, h4]
      | true =>
      simp
      refine callQ_v (s_l2Good ..) ?_
      cases h5 : inR a.tincture 1 9 with
      | false => simp [arms, h3, h5]
      | true =>
      simp
      refine callQ_v (PCall.arg (s_l4None a.on) (by simp)) ?_
      cases h6 : g0 a.on with
      | true => simp [arms, h0, h1, hA, h3, h4, h5, h6]
      | false =>
      simp
      refine callQ_v (PCall.arg (s_l4Group a.on) (by simp)) ?_
      simp [arms, h0, h1, hA, h3, h4, h5, h6]
  | false =>
    simp
    refine callQ_v (PCall.arg (s_l4Group a.around) (by simp)) ?_
    cases hG : groupOk a.around with
    | false => simp [r_s_l5Good_2, arms, hN, hG]
    | true =>
      have hA : (g0 a.around || groupOk a.around) = true := by rw [hN, hG]; rfl
      simp [r_s_l5Good_3]
      refine ⟨fun h3 => ?_, fun h3 => ?_⟩
      · by_cases h4 : a.line = 0
        · by_cases h5 : a.tincture = 0
          · simp [r_s_l5Good_4, h4, h5]
            refine callQ_v (PCall.arg (s_l4None a.on) (by simp)) ?_
            simp [arms, h1, hA, h3, h4, h5]
          · simp [r_s_l5Good_4, h4, h5, arms, h3]
        · simp [r_s_l5Good_4, h4, arms, h3]
      · have h0 : inR a.ordinary 1 7 = true := inR_iff.2 (by omega)
        simp [r_s_l5Good_5]
        refine callQ_v (s_l3Line ..) ?_
        cases h4 : inR a.line 0 4 with
        | false => simp [arms, h3, h4]
        | true =>
        simp
        refine callQ_v (s_l2Good ..) ?_
        cases h5 : inR a.tincture 1 9 with
        | false => simp [arms, h3, h5]
        | true =>
        simp
        refine callQ_v (PCall.arg (s_l4None a.on) (by simp)) ?_
        cases h6 : g0 a.on with
        | true => simp [arms, h0, h1, hA, h3, h4, h5, h6]
        | false =>
        simp
        refine callQ_v (PCall.arg (s_l4Group a.on) (by simp)) ?_
        simp [arms, h0, h1, hA, h3, h4, h5, h6]

/-! ### Fees -/
end Go.Proofs.YtbeoijlggphklaaGreat
