/- The texts of arms. -/
import Derived.Test.YtbeoijlggphklaaGreatCodeBlazon
import Derived.Test.YtbeoijlggphklaaGreatArms
set_option linter.unusedVariables false
set_option linter.unusedSimpArgs false
namespace Go.Proofs.YtbeoijlggphklaaGreat
open Go.Abs

def tincL : List (List UInt8) := [[103, 111, 108, 100], [115, 105, 108, 118, 101, 114], [114, 101, 100], [98, 108, 117, 101], [98, 108, 97, 99, 107], [103, 114, 101, 101, 110], [112, 117, 114, 112, 108, 101], [101, 114, 109, 105, 110, 101], [118, 97, 105, 114]]
def lineL : List (List UInt8) := [[101, 110, 103, 114, 97, 105, 108, 101, 100], [119, 97, 118, 121], [101, 109, 98, 97, 116, 116, 108, 101, 100], [105, 110, 100, 101, 110, 116, 101, 100]]
def divL : List (List UInt8) := [[112, 101, 114, 32, 112, 97, 108, 101], [112, 101, 114, 32, 102, 101, 115, 115], [112, 101, 114, 32, 98, 101, 110, 100], [113, 117, 97, 114, 116, 101, 114, 108, 121], [112, 101, 114, 32, 115, 97, 108, 116, 105, 114, 101], [112, 97, 108, 121], [98, 97, 114, 114, 121]]
def kindL : List (List UInt8) := [[108, 105, 111, 110], [101, 97, 103, 108, 101], [102, 105, 115, 104], [114, 111, 115, 101], [115, 116, 97, 114], [116, 111, 119, 101, 114], [107, 101, 121], [115, 119, 111, 114, 100]]
def countL : List (List UInt8) := [[97], [116, 119, 111], [116, 104, 114, 101, 101], [102, 111, 117, 114], [102, 105, 118, 101], [115, 105, 120]]
def ordL : List (List UInt8) := [[112, 97, 108, 101], [102, 101, 115, 115], [98, 101, 110, 100], [99, 104, 101, 118, 114, 111, 110], [99, 114, 111, 115, 115], [115, 97, 108, 116, 105, 114, 101], [99, 104, 105, 101, 102]]
def tincW (x : Int) : List UInt8 := tincL.getD (x - 1).toNat []
def lineW (x : Int) : List UInt8 := lineL.getD (x - 1).toNat []
def divW (x : Int) : List UInt8 := divL.getD (x - 1).toNat []
def kindW (k c : Int) : List UInt8 := kindL.getD (k - 1).toNat [] ++ (if 1 < c ∧ k ≠ 3 then [115] else [])
def countW (c k : Int) : List UInt8 := if c = 1 ∧ k = 2 then [97, 110] else countL.getD (c - 1).toNat []
def ordW (x : Int) : List UInt8 := ordL.getD (x - 1).toNat []
def withL (t : List UInt8) (x : Int) : List UInt8 := if x = 0 then t else t ++ 32 :: lineW x
/-- The text of a field. -/
def fieldT (f : Field) : List UInt8 := if f.division = 0 then tincW f.first else withL (divW f.division) f.line ++ 32 :: (tincW f.first ++ [32, 97, 110, 100, 32] ++ tincW f.second)
/-- The text of a group. -/
def groupT (g : Group) : List UInt8 := countW g.count g.kind ++ 32 :: (kindW g.kind g.count ++ (if 0 < g.attitude then 32 :: (attitudes g.kind).getD (g.attitude - 1).toNat [] else []) ++ 32 :: tincW g.tincture)
/-- The text of an ordinary. -/
def ordT (o l : Int) : List UInt8 := withL ([97, 32] ++ ordW o) l
def joinT (o : Int) : List UInt8 := if o = 0 then [44, 32] else if o = 7 then [32, 97, 98, 111, 118, 101, 32] else [32, 98, 101, 116, 119, 101, 101, 110, 32]
/-- The text of arms. -/
def armsT (a : Arms) : List UInt8 := fieldT a.field ++ (if a.ordinary = 0 then [] else [44, 32] ++ ordT a.ordinary a.line ++ 32 :: tincW a.tincture) ++ (if g0 a.on then [] else [32, 99, 104, 97, 114, 103, 101, 100, 32, 119, 105, 116, 104, 32] ++ groupT a.on) ++ (if g0 a.around then [] else joinT a.ordinary ++ groupT a.around)
theorem getD_len {l : List (List UInt8)} {m : Nat} (h : ∀ x ∈ l, x.length ≤ m) (i : Nat) : (l.getD i []).length ≤ m := by
  rw [List.getD_eq_getElem?_getD]
  cases hi : l[i]? with
  | none => simp
  | some x => exact h x (List.mem_of_getElem? hi)
theorem tincW_len (x : Int) : (tincW x).length ≤ 12 := getD_len (by decide) _
theorem lineW_len (x : Int) : (lineW x).length ≤ 12 := getD_len (by decide) _
theorem divW_len (x : Int) : (divW x).length ≤ 12 := getD_len (by decide) _
theorem ordW_len (x : Int) : (ordW x).length ≤ 12 := getD_len (by decide) _
theorem kindW_len (k c : Int) : (kindW k c).length ≤ 13 := by
  have := getD_len (l := kindL) (m := 12) (by decide) (k - 1).toNat
  unfold kindW
  rw [List.length_append]
  split <;> simp only [List.length_singleton, List.length_nil] <;> omega
theorem countW_len (c k : Int) : (countW c k).length ≤ 12 := by
  unfold countW
  split
  · decide
  · exact getD_len (by decide) _
theorem attW_len (k : Int) (i : Nat) : ((attitudes k).getD i []).length ≤ 12 := getD_len (by
  unfold attitudes
  split
  · decide
  · split
    · decide
    · split
      · decide
      · simp) _
theorem withL_len (t : List UInt8) (x : Int) : (withL t x).length ≤ t.length + 13 := by
  have := lineW_len x
  unfold withL
  split <;> simp <;> omega
theorem fieldT_len (f : Field) : (fieldT f).length ≤ 60 := by
  have h1 := tincW_len f.first
  have h2 := tincW_len f.second
  have h3 := divW_len f.division
  have h4 := withL_len (divW f.division) f.line
  unfold fieldT
  split
  · omega
  · simp; omega
theorem groupT_len (g : Group) : (groupT g).length ≤ 60 := by
  have h1 := countW_len g.count g.kind
  have h2 := kindW_len g.kind g.count
  have h3 := attW_len g.kind (g.attitude - 1).toNat
  have h4 := tincW_len g.tincture
  unfold groupT
  split <;> simp only [List.length_append, List.length_cons, List.length_nil] <;> omega
theorem ordT_len (o l : Int) : (ordT o l).length ≤ 30 := by
  have h1 := ordW_len o
  have h2 := withL_len ([97, 32] ++ ordW o) l
  unfold ordT
  simp at h2 ⊢; omega
theorem joinT_len (o : Int) : (joinT o).length ≤ 10 := by unfold joinT; split <;> (try split) <;> decide
theorem armsT_len (a : Arms) : (armsT a).length ≤ 300 := by
  have h1 := fieldT_len a.field
  have h2 := ordT_len a.ordinary a.line
  have h3 := tincW_len a.tincture
  have h4 := groupT_len a.on
  have h5 := groupT_len a.around
  have h6 := joinT_len a.ordinary
  unfold armsT
  split <;> split <;> split <;> simp <;> omega

/-! ### Words out of lists -/
theorem lit_tinc {d : Int} (h : 1 ≤ d ∧ d ≤ 9) : ([S [103, 111, 108, 100], S [115, 105, 108, 118, 101, 114], S [114, 101, 100], S [98, 108, 117, 101], S [98, 108, 97, 99, 107], S [103, 114, 101, 101, 110], S [112, 117, 114, 112, 108, 101], S [101, 114, 109, 105, 110, 101], S [118, 97, 105, 114]] : List V)[(d - 1).toNat]? = some (S (tincW d)) := by
  obtain rfl | rfl | rfl | rfl | rfl | rfl | rfl | rfl | rfl : d = 1 ∨ d = 2 ∨ d = 3 ∨ d = 4 ∨ d = 5 ∨ d = 6 ∨ d = 7 ∨ d = 8 ∨ d = 9 := by omega
  all_goals rfl
theorem lit_line0 {d : Int} (h : 1 ≤ d ∧ d ≤ 4) : ([S [], S [101, 110, 103, 114, 97, 105, 108, 101, 100], S [119, 97, 118, 121], S [101, 109, 98, 97, 116, 116, 108, 101, 100], S [105, 110, 100, 101, 110, 116, 101, 100]] : List V)[d.toNat]? = some (S (lineW d)) := by
  obtain rfl | rfl | rfl | rfl : d = 1 ∨ d = 2 ∨ d = 3 ∨ d = 4 := by omega
  all_goals rfl
theorem lit_line {d : Int} (h : 1 ≤ d ∧ d ≤ 4) : ([S [101, 110, 103, 114, 97, 105, 108, 101, 100], S [119, 97, 118, 121], S [101, 109, 98, 97, 116, 116, 108, 101, 100], S [105, 110, 100, 101, 110, 116, 101, 100]] : List V)[(d - 1).toNat]? = some (S (lineW d)) := by
  obtain rfl | rfl | rfl | rfl : d = 1 ∨ d = 2 ∨ d = 3 ∨ d = 4 := by omega
  all_goals rfl
theorem lit_div0 {d : Int} (h : 1 ≤ d ∧ d ≤ 7) : ([S [], S [112, 101, 114, 32, 112, 97, 108, 101], S [112, 101, 114, 32, 102, 101, 115, 115], S [112, 101, 114, 32, 98, 101, 110, 100], S [113, 117, 97, 114, 116, 101, 114, 108, 121], S [112, 101, 114, 32, 115, 97, 108, 116, 105, 114, 101], S [112, 97, 108, 121], S [98, 97, 114, 114, 121]] : List V)[d.toNat]? = some (S (divW d)) := by
  obtain rfl | rfl | rfl | rfl | rfl | rfl | rfl : d = 1 ∨ d = 2 ∨ d = 3 ∨ d = 4 ∨ d = 5 ∨ d = 6 ∨ d = 7 := by omega
  all_goals rfl
theorem lit_div {d : Int} (h : 1 ≤ d ∧ d ≤ 7) : ([S [112, 101, 114, 32, 112, 97, 108, 101], S [112, 101, 114, 32, 102, 101, 115, 115], S [112, 101, 114, 32, 98, 101, 110, 100], S [113, 117, 97, 114, 116, 101, 114, 108, 121], S [112, 101, 114, 32, 115, 97, 108, 116, 105, 114, 101], S [112, 97, 108, 121], S [98, 97, 114, 114, 121]] : List V)[(d - 1).toNat]? = some (S (divW d)) := by
  obtain rfl | rfl | rfl | rfl | rfl | rfl | rfl : d = 1 ∨ d = 2 ∨ d = 3 ∨ d = 4 ∨ d = 5 ∨ d = 6 ∨ d = 7 := by omega
  all_goals rfl
theorem lit_ord0 {d : Int} (h : 1 ≤ d ∧ d ≤ 7) : ([S [], S [112, 97, 108, 101], S [102, 101, 115, 115], S [98, 101, 110, 100], S [99, 104, 101, 118, 114, 111, 110], S [99, 114, 111, 115, 115], S [115, 97, 108, 116, 105, 114, 101], S [99, 104, 105, 101, 102]] : List V)[d.toNat]? = some (S (ordW d)) := by
  obtain rfl | rfl | rfl | rfl | rfl | rfl | rfl : d = 1 ∨ d = 2 ∨ d = 3 ∨ d = 4 ∨ d = 5 ∨ d = 6 ∨ d = 7 := by omega
  all_goals rfl
theorem lit_ord {d : Int} (h : 1 ≤ d ∧ d ≤ 7) : ([S [112, 97, 108, 101], S [102, 101, 115, 115], S [98, 101, 110, 100], S [99, 104, 101, 118, 114, 111, 110], S [99, 114, 111, 115, 115], S [115, 97, 108, 116, 105, 114, 101], S [99, 104, 105, 101, 102]] : List V)[(d - 1).toNat]? = some (S (ordW d)) := by
  obtain rfl | rfl | rfl | rfl | rfl | rfl | rfl : d = 1 ∨ d = 2 ∨ d = 3 ∨ d = 4 ∨ d = 5 ∨ d = 6 ∨ d = 7 := by omega
  all_goals rfl
theorem lit_kind {d : Int} (h : 1 ≤ d ∧ d ≤ 8) : ([S [108, 105, 111, 110], S [101, 97, 103, 108, 101], S [102, 105, 115, 104], S [114, 111, 115, 101], S [115, 116, 97, 114], S [116, 111, 119, 101, 114], S [107, 101, 121], S [115, 119, 111, 114, 100]] : List V)[(d - 1).toNat]? = some (S (kindL.getD (d - 1).toNat [])) := by
  obtain rfl | rfl | rfl | rfl | rfl | rfl | rfl | rfl : d = 1 ∨ d = 2 ∨ d = 3 ∨ d = 4 ∨ d = 5 ∨ d = 6 ∨ d = 7 ∨ d = 8 := by omega
  all_goals rfl
theorem lit_count {d : Int} (h : 1 ≤ d ∧ d ≤ 6) : ([S [97], S [116, 119, 111], S [116, 104, 114, 101, 101], S [102, 111, 117, 114], S [102, 105, 118, 101], S [115, 105, 120]] : List V)[(d - 1).toNat]? = some (S (countL.getD (d - 1).toNat [])) := by
  obtain rfl | rfl | rfl | rfl | rfl | rfl : d = 1 ∨ d = 2 ∨ d = 3 ∨ d = 4 ∨ d = 5 ∨ d = 6 := by omega
  all_goals rfl
/-! ### The reference -/
theorem s_l2Word (x : Int) (h : inR x 1 9 = true) : PCall Tryz.prog n_s_l2Word [I x] (S (tincW x)) := by
  have h' := inR_iff.1 h
  refine PCall.of fn_s_l2Word (by simp) ?_
  simp [c_s_l2Word, r_s_l2Word_0, r_s_l2Word_1]
  rw [wrap64 (n := x - 1) (by omega) (by omega), lit_tinc h']
  exact ⟨by omega, by simp⟩
theorem s_l3LineWord (x : Int) (h : 1 ≤ x ∧ x ≤ 4) : PCall Tryz.prog n_s_l3LineWord [I x] (S (lineW x)) := by
  refine PCall.of fn_s_l3LineWord (by simp) ?_
  simp [c_s_l3LineWord, r_s_l3LineWord_0, r_s_l3LineWord_1]
  rw [lit_line0 h]
  exact ⟨by omega, by simp⟩
set_option maxHeartbeats 1000000 in
theorem s_l3Text (f : Field) (h : fieldOk f = true) : PCall Tryz.prog n_s_l3Text [eField f] (S (fieldT f)) := by
  simp only [fieldOk, Bool.and_eq_true, inR_iff] at h
  obtain ⟨⟨⟨h1, h2⟩, h3⟩, h4⟩ := h
  have b1 := tincW_len f.first
  have b2 := tincW_len f.second
  have b3 := divW_len f.division
  have b4 := lineW_len f.line
  refine PCall.of fn_s_l3Text (by simp) ?_
  by_cases h0 : f.division = 0
  · simp [c_s_l3Text, r_s_l3Text_0, r_s_l3Text_1, r_s_l3Text_2, h0]
    exact callQ_v (PCall.arg (s_l2Word f.first (inR_iff.2 h3)) (by simp)) (by simp [fieldT, h0])
  · rw [if_neg h0] at h4
    simp only [Bool.and_eq_true, inR_iff] at h4
    simp [c_s_l3Text, r_s_l3Text_0, r_s_l3Text_1, r_s_l3Text_3, h0]
    rw [lit_div0 (d := f.division) (by omega)]
    refine ⟨by omega, ?_⟩
    simp [r_s_l3Text_4]
    by_cases hl : f.line = 0
    · refine ⟨fun h => by omega, fun _ => ?_⟩
      simp [r_s_l3Text_6, p_s_l3Text_6]
      repeat (refine ⟨by omega, ?_⟩)
      refine callD_v (PCall.arg (s_l2Word f.first (inR_iff.2 h3)) (by simp)) ?_ ?_ ?_
      · simp
      · simp
      simp
      repeat (refine ⟨by omega, ?_⟩)
      refine callD_v (PCall.arg (s_l2Word f.second (inR_iff.2 h4.1)) (by simp)) ?_ ?_ ?_
      · simp
      · simp
      simp
      repeat (refine ⟨by omega, ?_⟩)
      refine ⟨oEnd_of (by simp [p_s_l3Text_6]) (by simp), ?_⟩
      simp [fieldT, withL, h0, hl]
    · refine ⟨fun _ => ?_, fun h => by omega⟩
      simp [r_s_l3Text_5]
      repeat (refine ⟨by omega, ?_⟩)
      refine callQ_v (PCall.arg (s_l3LineWord f.line (by omega)) (by simp)) ?_
      simp
      repeat (refine ⟨by omega, ?_⟩)
      simp [r_s_l3Text_6, p_s_l3Text_6]
      repeat (refine ⟨by omega, ?_⟩)
      refine callD_v (PCall.arg (s_l2Word f.first (inR_iff.2 h3)) (by simp)) ?_ ?_ ?_
      · simp
      · simp
      simp
      repeat (refine ⟨by omega, ?_⟩)
      refine callD_v (PCall.arg (s_l2Word f.second (inR_iff.2 h4.1)) (by simp)) ?_ ?_ ?_
      · simp
      · simp
      simp
      repeat (refine ⟨by omega, ?_⟩)
      refine ⟨oEnd_of (by simp [p_s_l3Text_6]) (by simp), ?_⟩
      simp [fieldT, withL, h0, hl]
theorem s_l6Ordinary (o l : Int) (ho : 1 ≤ o ∧ o ≤ 7) (hl : 0 ≤ l ∧ l ≤ 4) : PCall Tryz.prog n_s_l6Ordinary [I o, I l] (S (ordT o l)) := by
  have b1 := ordW_len o
  have b2 := lineW_len l
  refine PCall.of fn_s_l6Ordinary (by simp) ?_
  simp [c_s_l6Ordinary, r_s_l6Ordinary_0, r_s_l6Ordinary_1]
  rw [lit_ord0 ho]
  repeat (refine ⟨by omega, ?_⟩)
  simp
  repeat (refine ⟨by omega, ?_⟩)
  simp [r_s_l6Ordinary_2]
  by_cases h0 : l = 0
  · refine ⟨fun h => by omega, fun _ => ?_⟩
    simp [r_s_l6Ordinary_4, ordT, withL, h0]
  · refine ⟨fun _ => ?_, fun h => by omega⟩
    simp [r_s_l6Ordinary_3]
    repeat (refine ⟨by omega, ?_⟩)
    refine callQ_v (PCall.arg (s_l3LineWord l (by omega)) (by simp)) ?_
    simp
    repeat (refine ⟨by omega, ?_⟩)
    simp [r_s_l6Ordinary_4, ordT, withL, h0]
theorem s_l6Join (o : Int) : PCall Tryz.prog n_s_l6Join [I o] (S (joinT o)) := by
  refine PCall.of fn_s_l6Join (by simp) ?_
  by_cases h0 : o = 0
  · simp [c_s_l6Join, r_s_l6Join_0, r_s_l6Join_1, r_s_l6Join_2, r_s_l6Join_3, r_s_l6Join_4, r_s_l6Join_5, r_s_l6Join_6, h0, joinT]
  · by_cases h7 : o = 7
    · simp [c_s_l6Join, r_s_l6Join_0, r_s_l6Join_1, r_s_l6Join_2, r_s_l6Join_3, r_s_l6Join_4, r_s_l6Join_5, r_s_l6Join_6, h7, joinT]
    · simp [c_s_l6Join, r_s_l6Join_0, r_s_l6Join_1, r_s_l6Join_2, r_s_l6Join_3, r_s_l6Join_4, r_s_l6Join_5, r_s_l6Join_6, h0, h7, joinT]
theorem s_l4Attitudes (k : Int) : PCall Tryz.prog n_s_l4Attitudes [I k] (.own 1 ((attitudes k).map S)) := by
  refine PCall.of fn_s_l4Attitudes (by simp) ?_
  by_cases h1 : k = 1
  · simp [c_s_l4Attitudes, r_s_l4Attitudes_0, r_s_l4Attitudes_1, r_s_l4Attitudes_2, r_s_l4Attitudes_3, r_s_l4Attitudes_4, r_s_l4Attitudes_5, r_s_l4Attitudes_6, r_s_l4Attitudes_7, r_s_l4Attitudes_8, h1, attitudes]
  by_cases h2 : k = 2
  · simp [c_s_l4Attitudes, r_s_l4Attitudes_0, r_s_l4Attitudes_1, r_s_l4Attitudes_2, r_s_l4Attitudes_3, r_s_l4Attitudes_4, r_s_l4Attitudes_5, r_s_l4Attitudes_6, r_s_l4Attitudes_7, r_s_l4Attitudes_8, h2, attitudes]
  by_cases h3 : k = 3
  · simp [c_s_l4Attitudes, r_s_l4Attitudes_0, r_s_l4Attitudes_1, r_s_l4Attitudes_2, r_s_l4Attitudes_3, r_s_l4Attitudes_4, r_s_l4Attitudes_5, r_s_l4Attitudes_6, r_s_l4Attitudes_7, r_s_l4Attitudes_8, h3, attitudes]
  simp [c_s_l4Attitudes, r_s_l4Attitudes_0, r_s_l4Attitudes_1, r_s_l4Attitudes_2, r_s_l4Attitudes_3, r_s_l4Attitudes_4, r_s_l4Attitudes_5, r_s_l4Attitudes_6, r_s_l4Attitudes_7, r_s_l4Attitudes_8, h1, h2, h3, attitudes]
theorem s_l4Word (k c : Int) (hk : 1 ≤ k ∧ k ≤ 8) : PCall Tryz.prog n_s_l4Word [I k, I c] (S (kindW k c)) := by
  have b := kindW_len k c
  have b0 := getD_len (l := kindL) (m := 12) (by decide) (k - 1).toNat
  refine PCall.of fn_s_l4Word (by simp) ?_
  simp [c_s_l4Word, r_s_l4Word_0, r_s_l4Word_1]
  rw [wrap64 (n := k - 1) (by omega) (by omega), lit_kind hk]
  repeat (refine ⟨by omega, ?_⟩)
  obtain ⟨w, hw⟩ : ∃ w, kindL.getD (k - 1).toNat [] = w := ⟨_, rfl⟩
  have e : kindW k c = w ++ (if 1 < c ∧ k ≠ 3 then [115] else []) := by rw [kindW, hw]
  rw [hw] at b0 ⊢
  rw [e]
  simp
  by_cases h1 : 1 < c
  · by_cases h3 : k = 3
    · simp [r_s_l4Word_2, r_s_l4Word_4, h1, h3]
    · simp [r_s_l4Word_2, r_s_l4Word_3, r_s_l4Word_4, h1, h3]
      omega
  · simp [r_s_l4Word_2, r_s_l4Word_4, h1]
theorem word_at' {l : List (List UInt8)} {i : Nat} (h : i < l.length) : l[i]? = some (l.getD i []) := by
  rw [List.getElem?_eq_getElem h, List.getD_eq_getElem?_getD, List.getElem?_eq_getElem h]
  rfl
theorem att_get {g : Group} (hg : groupOk g = true) (ha : 0 < g.attitude) : (g.attitude - 1).toNat < (attitudes g.kind).length ∧ ((attitudes g.kind).map S)[(g.attitude - 1).toNat]? = some (S ((attitudes g.kind).getD (g.attitude - 1).toNat [])) := by
  have hl := attitudes_len g.kind
  have h : (g.attitude - 1).toNat < (attitudes g.kind).length := by
    simp only [groupOk, Bool.and_eq_true, inR_iff] at hg
    obtain ⟨⟨⟨h1, h2⟩, h3⟩, h4⟩ := hg
    by_cases hk : g.kind ≤ 3
    · rw [if_pos hk] at h4
      rw [if_pos (by omega)] at hl
      have := inR_iff.1 h4
      omega
    · rw [if_neg hk] at h4
      have : g.attitude = 0 := by simpa using h4
      omega
  refine ⟨h, ?_⟩
  rw [List.getElem?_map, List.getElem?_eq_getElem h, List.getD_eq_getElem?_getD, List.getElem?_eq_getElem h]
  rfl
def bareT (g : Group) : List UInt8 := countW g.count g.kind ++ 32 :: (kindW g.kind g.count ++ (if 0 < g.attitude then 32 :: (attitudes g.kind).getD (g.attitude - 1).toNat [] else []))
theorem groupT_bare (g : Group) : groupT g = bareT g ++ 32 :: tincW g.tincture := by simp [groupT, bareT]
theorem groupOk_iff {g : Group} (h : groupOk g = true) : (1 ≤ g.count ∧ g.count ≤ 6) ∧ (1 ≤ g.kind ∧ g.kind ≤ 8) ∧ inR g.tincture 1 9 = true ∧ 0 ≤ g.attitude ∧ g.attitude ≤ 2 := by
  simp only [groupOk, Bool.and_eq_true, inR_iff] at h
  obtain ⟨⟨⟨h1, h2⟩, h3⟩, h4⟩ := h
  refine ⟨h1, h2, inR_iff.2 h3, ?_⟩
  split at h4
  · have := inR_iff.1 h4; omega
  · have : g.attitude = 0 := by simpa using h4
    omega
set_option maxHeartbeats 1000000 in
theorem s_l4Bare (g : Group) (h : groupOk g = true) : PCall Tryz.prog n_s_l4Bare [eGroup g] (S (bareT g)) := by
  obtain ⟨h1, h2, h3, h4⟩ := groupOk_iff h
  have b1 := countW_len g.count g.kind
  have b2 := kindW_len g.kind g.count
  have b3 := attW_len g.kind (g.attitude - 1).toNat
  refine PCall.of fn_s_l4Bare (by simp) ?_
  simp [c_s_l4Bare, r_s_l4Bare_0, r_s_l4Bare_1]
  rw [wrap64 (n := g.count - 1) (by omega) (by omega), lit_count h1]
  repeat (refine ⟨by omega, ?_⟩)
  obtain ⟨w, hw⟩ : ∃ w, countL.getD (g.count - 1).toNat [] = w := ⟨_, rfl⟩
  have e : countW g.count g.kind = if g.count = 1 ∧ g.kind = 2 then [97, 110] else w := by rw [countW, hw]
  rw [hw]
  obtain ⟨cw, hcw⟩ : ∃ cw, countW g.count g.kind = cw := ⟨_, rfl⟩
  have hB : bareT g = cw ++ 32 :: (kindW g.kind g.count ++ (if 0 < g.attitude then 32 :: (attitudes g.kind).getD (g.attitude - 1).toNat [] else [])) := by rw [bareT, hcw]
  rw [hcw] at b1 e
  rw [hB]
  simp
  rcases Classical.em (g.count = 1 ∧ g.kind = 2) with hc | hc
  case' inl =>
    rw [if_pos hc] at e
    simp [r_s_l4Bare_2, r_s_l4Bare_3, hc.1, hc.2]
    refine wk_of ⟨[(1, .ref 1 0 0), (3, S cw)], [(1, ⟨4, [eGroup g]⟩)], []⟩ (Wk.list rfl (by simp [e]) (by simp)) ?_
  case' inr =>
    rw [if_neg hc] at e
    have hc' : g.count = 1 → ¬ g.kind = 2 := fun a b => hc ⟨a, b⟩
    rcases Classical.em (g.count = 1) with hc1 | hc1
    case' inl =>
      simp [r_s_l4Bare_2, hc1, hc' hc1]
      refine wk_of ⟨[(1, .ref 1 0 0), (3, S cw)], [(1, ⟨4, [eGroup g]⟩)], []⟩ (Wk.list rfl (by simp [e]) (by simp)) ?_
    case' inr =>
      simp [r_s_l4Bare_2, hc1]
      refine wk_of ⟨[(1, .ref 1 0 0), (3, S cw)], [(1, ⟨4, [eGroup g]⟩)], []⟩ (Wk.list rfl (by simp [e]) (by simp)) ?_
  all_goals
    simp [r_s_l4Bare_4]
    repeat (refine ⟨by omega, ?_⟩)
    refine callQ_v (PCall.arg (s_l4Word g.kind g.count h2) (by simp)) ?_
    simp
    repeat (refine ⟨by omega, ?_⟩)
    simp [r_s_l4Bare_5]
    by_cases ha : 0 < g.attitude
    · obtain ⟨g1, g2⟩ := att_get h ha
      refine ⟨fun _ => ?_, fun h => by omega⟩
      simp [r_s_l4Bare_6, p_s_l4Bare_6]
      repeat (refine ⟨by omega, ?_⟩)
      refine callD_of (PCall.arg (s_l4Attitudes g.kind) (by simp)) rfl (.inl (by simp)) ?_ ?_ ?_
      · simp
      · simp
      simp
      rw [wrap64 (n := g.attitude - 1) (by omega) (by omega), word_at' g1]
      repeat (refine ⟨by omega, ?_⟩)
      obtain ⟨aw, haw⟩ : ∃ aw, (attitudes g.kind).getD (g.attitude - 1).toNat [] = aw := ⟨_, rfl⟩
      rw [haw] at b3 ⊢
      simp [ha]
      repeat (refine ⟨by omega, ?_⟩)
      refine ⟨oEnd_of (by simp [p_s_l4Bare_6]) (by simp), ?_⟩
      simp [r_s_l4Bare_7, ha]
    · refine ⟨fun h => by omega, fun _ => ?_⟩
      simp [r_s_l4Bare_7, ha]
theorem s_l4Text (g : Group) (h : groupOk g = true) : PCall Tryz.prog n_s_l4Text [eGroup g] (S (groupT g)) := by
  obtain ⟨h1, h2, h3, h4⟩ := groupOk_iff h
  have b0 := groupT_len g
  rw [groupT_bare] at b0 ⊢
  simp only [List.length_append, List.length_cons] at b0
  refine PCall.of fn_s_l4Text (by simp) ?_
  simp [c_s_l4Text, r_s_l4Text_0, r_s_l4Text_1, p_s_l4Text_1]
  refine callD_v (PCall.arg (s_l4Bare g h) (by simp)) ?_ ?_ ?_
  · simp
  · simp
  simp
  repeat (refine ⟨by omega, ?_⟩)
  refine callD_v (PCall.arg (s_l2Word g.tincture h3) (by simp)) ?_ ?_ ?_
  · simp
  · simp
  simp
  repeat (refine ⟨by omega, ?_⟩)
  exact oEnd_of (by simp [p_s_l4Text_1]) (by simp)
/-! ### The program's words -/
theorem i_tinctureWords : PCall Tryz.prog n_i_tinctureWords [] (.own 1 (tincL.map S)) := by
  refine PCall.of fn_i_tinctureWords (by simp) ?_
  simp [c_i_tinctureWords, r_i_tinctureWords_0, r_i_tinctureWords_1, tincL]
theorem i_lineWords : PCall Tryz.prog n_i_lineWords [] (.own 1 (lineL.map S)) := by
  refine PCall.of fn_i_lineWords (by simp) ?_
  simp [c_i_lineWords, r_i_lineWords_0, r_i_lineWords_1, lineL]
theorem i_divisionWords : PCall Tryz.prog n_i_divisionWords [] (.own 1 (divL.map S)) := by
  refine PCall.of fn_i_divisionWords (by simp) ?_
  simp [c_i_divisionWords, r_i_divisionWords_0, r_i_divisionWords_1, divL]
theorem i_ordinaryWords : PCall Tryz.prog n_i_ordinaryWords [] (.own 1 (ordL.map S)) := by
  refine PCall.of fn_i_ordinaryWords (by simp) ?_
  simp [c_i_ordinaryWords, r_i_ordinaryWords_0, r_i_ordinaryWords_1, ordL]
theorem i_kindWords : PCall Tryz.prog n_i_kindWords [] (.own 1 (kindL.map S)) := by
  refine PCall.of fn_i_kindWords (by simp) ?_
  simp [c_i_kindWords, r_i_kindWords_0, r_i_kindWords_1, kindL]
theorem i_tincture (x : Int) (h : inR x 1 9 = true) : PCall Tryz.prog n_i_tincture [I x] (S (tincW x)) := by
  have h' := inR_iff.1 h
  have hl : tincL.length = 9 := rfl
  have hw : tincL[(x - 1).toNat]? = some (tincW x) := word_at' (by omega)
  refine PCall.of fn_i_tincture (by simp) ?_
  simp [c_i_tincture, r_i_tincture_0, r_i_tincture_1]
  refine callQ_of i_tinctureWords rfl (.inl (by simp)) (by simp) ?_
  simp
  rw [wrap64 (n := x - 1) (by omega) (by omega), hw]
  exact ⟨by omega, by simp⟩
theorem i_withLine (t : List UInt8) (x : Int) (h : 0 ≤ x ∧ x ≤ 4) (ht : t.length ≤ 1000) : PCall Tryz.prog n_i_withLine [S t, I x] (S (withL t x)) := by
  have hl : lineL.length = 4 := rfl
  have b := lineW_len x
  refine PCall.of fn_i_withLine (by simp) ?_
  by_cases h0 : x = 0
  · simp [c_i_withLine, r_i_withLine_0, r_i_withLine_1, r_i_withLine_2, h0, withL]
  · have hw : lineL[(x - 1).toNat]? = some (lineW x) := word_at' (by omega)
    simp [c_i_withLine, r_i_withLine_0, r_i_withLine_1, r_i_withLine_3, h0]
    repeat (refine ⟨by omega, ?_⟩)
    refine callQ_of i_lineWords rfl (.inl (by simp)) (by simp) ?_
    simp
    repeat (refine ⟨by omega, ?_⟩)
    rw [wrap64 (n := x - 1) (by omega) (by omega), hw]
    repeat (refine ⟨by omega, ?_⟩)
    simp [withL, h0]
    try omega
theorem i_ordinaryStart (o l : Int) (ho : 1 ≤ o ∧ o ≤ 7) (hl : 0 ≤ l ∧ l ≤ 4) : PCall Tryz.prog n_i_ordinaryStart [I o, I l] (S (ordT o l)) := by
  have hL : ordL.length = 7 := rfl
  have b := ordW_len o
  have hw : ordL[(o - 1).toNat]? = some (ordW o) := word_at' (by omega)
  refine PCall.of fn_i_ordinaryStart (by simp) ?_
  simp [c_i_ordinaryStart, r_i_ordinaryStart_0, r_i_ordinaryStart_1]
  refine callQ_of i_ordinaryWords rfl (.inl (by simp)) (by simp) ?_
  simp
  rw [wrap64 (n := o - 1) (by omega) (by omega), hw]
  repeat (refine ⟨by omega, ?_⟩)
  simp
  repeat (refine ⟨by omega, ?_⟩)
  refine callQ_v (PCall.arg (i_withLine ([97, 32] ++ ordW o) l hl (by simp; omega)) (by simp)) ?_
  simp [ordT]
theorem i_countWord (c k : Int) (hc : 1 ≤ c ∧ c ≤ 6) : PCall Tryz.prog n_i_countWord [I c, I k] (S (countW c k)) := by
  refine PCall.of fn_i_countWord (by simp) ?_
  by_cases h1 : c = 1
  · by_cases h2 : k = 2
    · simp [c_i_countWord, r_i_countWord_0, r_i_countWord_1, r_i_countWord_2, h1, h2, countW]
    · simp [c_i_countWord, r_i_countWord_0, r_i_countWord_1, r_i_countWord_3, h1, h2, countW, countL]
      rw [show IntKind.i64.wrap 0 = 0 from rfl]
      simp [h1, h2, countW, countL]
  · have e : countW c k = countL.getD (c - 1).toNat [] := by rw [countW, if_neg (fun h => h1 h.1)]
    rw [e]
    simp [c_i_countWord, r_i_countWord_0, r_i_countWord_1, r_i_countWord_3, h1]
    rw [wrap64 (n := c - 1) (by omega) (by omega), lit_count hc]
    repeat (refine ⟨by omega, ?_⟩)
    simp
theorem i_kindWord (k c : Int) (hk : 1 ≤ k ∧ k ≤ 8) : PCall Tryz.prog n_i_kindWord [I k, I c] (S (kindW k c)) := by
  have hL : kindL.length = 8 := rfl
  have b0 := getD_len (l := kindL) (m := 12) (by decide) (k - 1).toNat
  have hk' : kindL[(k - 1).toNat]? = some (kindL.getD (k - 1).toNat []) := word_at' (by omega)
  obtain ⟨w, hw⟩ : ∃ w, kindL.getD (k - 1).toNat [] = w := ⟨_, rfl⟩
  have e : kindW k c = w ++ (if 1 < c ∧ k ≠ 3 then [115] else []) := by rw [kindW, hw]
  rw [hw] at b0 hk'
  rw [e]
  refine PCall.of fn_i_kindWord (by simp) ?_
  simp [c_i_kindWord, r_i_kindWord_0, r_i_kindWord_1]
  refine callQ_of i_kindWords rfl (.inl (by simp)) (by simp) ?_
  simp
  rw [wrap64 (n := k - 1) (by omega) (by omega), hk']
  repeat (refine ⟨by omega, ?_⟩)
  simp
  by_cases h1 : 1 < c
  · by_cases h3 : k = 3
    · simp [r_i_kindWord_2, r_i_kindWord_4, h1, h3]
    · simp [r_i_kindWord_2, r_i_kindWord_3, r_i_kindWord_4, h1, h3]
      omega
  · simp [r_i_kindWord_2, r_i_kindWord_4, h1]
end Go.Proofs.YtbeoijlggphklaaGreat
