/- Parts of the proof, merged: Blazon, Blazon2, Pieces, Pieces2, CodeEntry, RollLaw, CodeWrap, CodeStrs, Strs, MottoLaw, Wrap, EntryLaw, RollDef, RollDef2, Entry, WFormat. -/
import Derived.Test.YtbeoijlggphklaaGreatDoorShelf
import Derived.Test.YtbeoijlggphklaaGreatDoorAbs4
import Derived.Test.YtbeoijlggphklaaGreatDoorPFormatConsole2
/- The texts of arms. -/
set_option linter.unusedVariables false
set_option linter.unusedSimpArgs false
namespace Go.Proofs.YtbeoijlggphklaaGreatDoor
open Go.Abs

def tincL : List (List UInt8) := [[103, 111, 108, 100], [115, 105, 108, 118, 101, 114], [114, 101, 100], [98, 108, 117, 101], [98, 108, 97, 99, 107], [103, 114, 101, 101, 110], [112, 117, 114, 112, 108, 101], [101, 114, 109, 105, 110, 101], [118, 97, 105, 114]]
def lineL : List (List UInt8) := [[101, 110, 103, 114, 97, 105, 108, 101, 100], [119, 97, 118, 121], [101, 109, 98, 97, 116, 116, 108, 101, 100], [105, 110, 100, 101, 110, 116, 101, 100]]
def divL : List (List UInt8) := [[112, 101, 114, 32, 112, 97, 108, 101], [112, 101, 114, 32, 102, 101, 115, 115], [112, 101, 114, 32, 98, 101, 110, 100], [113, 117, 97, 114, 116, 101, 114, 108, 121], [112, 101, 114, 32, 115, 97, 108, 116, 105, 114, 101], [112, 97, 108, 121], [98, 97, 114, 114, 121]]
def kindL : List (List UInt8) := [[108, 105, 111, 110], [101, 97, 103, 108, 101], [102, 105, 115, 104], [114, 111, 115, 101], [115, 116, 97, 114], [116, 111, 119, 101, 114], [107, 101, 121], [115, 119, 111, 114, 100]]
def countL : List (List UInt8) := [[97], [116, 119, 111], [116, 104, 114, 101, 101], [102, 111, 117, 114], [102, 105, 118, 101], [115, 105, 120]]
def ordL : List (List UInt8) := [[112, 97, 108, 101], [102, 101, 115, 115], [98, 101, 110, 100], [99, 104, 101, 118, 114, 111, 110], [99, 114, 111, 115, 115], [115, 97, 108, 116, 105, 114, 101], [99, 104, 105, 101, 102]]
def tincW (x : Int) : List UInt8 := tincL.getD (x - 1).toNat []
def lineW (x : Int) : List UInt8 := lineL.getD (x - 1).toNat []
def divW (x : Int) : List UInt8 := divL.getD (x - 1).toNat []
def kindW (k c : Int) : List UInt8 := kindL.getD (k - 1).toNat [] ++ (if 1 < c ∧ k ≠ 3 then [115] else [])
def countW (c k : Int) : List UInt8 := if c = 1 ∧ k = 2 then [97, 110] else countL.getD (c - 1).toNat []
def ordW (x : Int) : List UInt8 := ordL.getD (x - 1).toNat []
def withL (t : List UInt8) (x : Int) : List UInt8 := if x = 0 then t else t ++ 32 :: lineW x
/-- The text of a field. -/
def fieldT (f : Field) : List UInt8 := if f.division = 0 then tincW f.first else withL (divW f.division) f.line ++ 32 :: (tincW f.first ++ [32, 97, 110, 100, 32] ++ tincW f.second)
/-- The text of a group. -/
def groupT (g : Group) : List UInt8 := countW g.count g.kind ++ 32 :: (kindW g.kind g.count ++ (if 0 < g.attitude then 32 :: (attitudes g.kind).getD (g.attitude - 1).toNat [] else []) ++ 32 :: tincW g.tincture)
/-- The text of an ordinary. -/
def ordT (o l : Int) : List UInt8 := withL ([97, 32] ++ ordW o) l
def joinT (o : Int) : List UInt8 := if o = 0 then [44, 32] else if o = 7 then [32, 97, 98, 111, 118, 101, 32] else [32, 98, 101, 116, 119, 101, 101, 110, 32]
/-- The text of arms. -/
def armsT (a : Arms) : List UInt8 := fieldT a.field ++ (if a.ordinary = 0 then [] else [44, 32] ++ ordT a.ordinary a.line ++ 32 :: tincW a.tincture) ++ (if g0 a.on then [] else [32, 99, 104, 97, 114, 103, 101, 100, 32, 119, 105, 116, 104, 32] ++ groupT a.on) ++ (if g0 a.around then [] else joinT a.ordinary ++ groupT a.around)
theorem getD_len {l : List (List UInt8)} {m : Nat} (h : ∀ x ∈ l, x.length ≤ m) (i : Nat) : (l.getD i []).length ≤ m := by
  rw [List.getD_eq_getElem?_getD]
  cases hi : l[i]? with
  | none => simp
  | some x => exact h x (List.mem_of_getElem? hi)
theorem tincW_len (x : Int) : (tincW x).length ≤ 12 := getD_len (by decide) _
theorem lineW_len (x : Int) : (lineW x).length ≤ 12 := getD_len (by decide) _
theorem divW_len (x : Int) : (divW x).length ≤ 12 := getD_len (by decide) _
theorem ordW_len (x : Int) : (ordW x).length ≤ 12 := getD_len (by decide) _
theorem kindW_len (k c : Int) : (kindW k c).length ≤ 13 := by
  have := getD_len (l := kindL) (m := 12) (by decide) (k - 1).toNat
  unfold kindW
  rw [List.length_append]
  split <;> simp only [List.length_singleton, List.length_nil] <;> omega
theorem countW_len (c k : Int) : (countW c k).length ≤ 12 := by
  unfold countW
  split
  · decide
  · exact getD_len (by decide) _
theorem attW_len (k : Int) (i : Nat) : ((attitudes k).getD i []).length ≤ 12 := getD_len (by
  unfold attitudes
  split
  · decide
  · split
    · decide
    · split
      · decide
      · simp) _
theorem withL_len (t : List UInt8) (x : Int) : (withL t x).length ≤ t.length + 13 := by
  have := lineW_len x
  unfold withL
  split <;> simp <;> omega
theorem fieldT_len (f : Field) : (fieldT f).length ≤ 60 := by
  have h1 := tincW_len f.first
  have h2 := tincW_len f.second
  have h3 := divW_len f.division
  have h4 := withL_len (divW f.division) f.line
  unfold fieldT
  split
  · omega
  · simp; omega
theorem groupT_len (g : Group) : (groupT g).length ≤ 60 := by
  have h1 := countW_len g.count g.kind
  have h2 := kindW_len g.kind g.count
  have h3 := attW_len g.kind (g.attitude - 1).toNat
  have h4 := tincW_len g.tincture
  unfold groupT
  split <;> simp only [List.length_append, List.length_cons, List.length_nil] <;> omega
theorem ordT_len (o l : Int) : (ordT o l).length ≤ 30 := by
  have h1 := ordW_len o
  have h2 := withL_len ([97, 32] ++ ordW o) l
  unfold ordT
  simp at h2 ⊢; omega
theorem joinT_len (o : Int) : (joinT o).length ≤ 10 := by unfold joinT; split <;> (try split) <;> decide
theorem armsT_len (a : Arms) : (armsT a).length ≤ 300 := by
  have h1 := fieldT_len a.field
  have h2 := ordT_len a.ordinary a.line
  have h3 := tincW_len a.tincture
  have h4 := groupT_len a.on
  have h5 := groupT_len a.around
  have h6 := joinT_len a.ordinary
  unfold armsT
  split <;> split <;> split <;> simp <;> omega

/-! ### Words out of lists -/
theorem lit_tinc {d : Int} (h : 1 ≤ d ∧ d ≤ 9) : ([S [103, 111, 108, 100], S [115, 105, 108, 118, 101, 114], S [114, 101, 100], S [98, 108, 117, 101], S [98, 108, 97, 99, 107], S [103, 114, 101, 101, 110], S [112, 117, 114, 112, 108, 101], S [101, 114, 109, 105, 110, 101], S [118, 97, 105, 114]] : List V)[(d - 1).toNat]? = some (S (tincW d)) := by
  obtain rfl | rfl | rfl | rfl | rfl | rfl | rfl | rfl | rfl : d = 1 ∨ d = 2 ∨ d = 3 ∨ d = 4 ∨ d = 5 ∨ d = 6 ∨ d = 7 ∨ d = 8 ∨ d = 9 := by omega
  all_goals rfl
theorem lit_line0 {d : Int} (h : 1 ≤ d ∧ d ≤ 4) : ([S [], S [101, 110, 103, 114, 97, 105, 108, 101, 100], S [119, 97, 118, 121], S [101, 109, 98, 97, 116, 116, 108, 101, 100], S [105, 110, 100, 101, 110, 116, 101, 100]] : List V)[d.toNat]? = some (S (lineW d)) := by
  obtain rfl | rfl | rfl | rfl : d = 1 ∨ d = 2 ∨ d = 3 ∨ d = 4 := by omega
  all_goals rfl
theorem lit_line {d : Int} (h : 1 ≤ d ∧ d ≤ 4) : ([S [101, 110, 103, 114, 97, 105, 108, 101, 100], S [119, 97, 118, 121], S [101, 109, 98, 97, 116, 116, 108, 101, 100], S [105, 110, 100, 101, 110, 116, 101, 100]] : List V)[(d - 1).toNat]? = some (S (lineW d)) := by
  obtain rfl | rfl | rfl | rfl : d = 1 ∨ d = 2 ∨ d = 3 ∨ d = 4 := by omega
  all_goals rfl
theorem lit_div0 {d : Int} (h : 1 ≤ d ∧ d ≤ 7) : ([S [], S [112, 101, 114, 32, 112, 97, 108, 101], S [112, 101, 114, 32, 102, 101, 115, 115], S [112, 101, 114, 32, 98, 101, 110, 100], S [113, 117, 97, 114, 116, 101, 114, 108, 121], S [112, 101, 114, 32, 115, 97, 108, 116, 105, 114, 101], S [112, 97, 108, 121], S [98, 97, 114, 114, 121]] : List V)[d.toNat]? = some (S (divW d)) := by
  obtain rfl | rfl | rfl | rfl | rfl | rfl | rfl : d = 1 ∨ d = 2 ∨ d = 3 ∨ d = 4 ∨ d = 5 ∨ d = 6 ∨ d = 7 := by omega
  all_goals rfl
theorem lit_div {d : Int} (h : 1 ≤ d ∧ d ≤ 7) : ([S [112, 101, 114, 32, 112, 97, 108, 101], S [112, 101, 114, 32, 102, 101, 115, 115], S [112, 101, 114, 32, 98, 101, 110, 100], S [113, 117, 97, 114, 116, 101, 114, 108, 121], S [112, 101, 114, 32, 115, 97, 108, 116, 105, 114, 101], S [112, 97, 108, 121], S [98, 97, 114, 114, 121]] : List V)[(d - 1).toNat]? = some (S (divW d)) := by
  obtain rfl | rfl | rfl | rfl | rfl | rfl | rfl : d = 1 ∨ d = 2 ∨ d = 3 ∨ d = 4 ∨ d = 5 ∨ d = 6 ∨ d = 7 := by omega
  all_goals rfl
theorem lit_ord0 {d : Int} (h : 1 ≤ d ∧ d ≤ 7) : ([S [], S [112, 97, 108, 101], S [102, 101, 115, 115], S [98, 101, 110, 100], S [99, 104, 101, 118, 114, 111, 110], S [99, 114, 111, 115, 115], S [115, 97, 108, 116, 105, 114, 101], S [99, 104, 105, 101, 102]] : List V)[d.toNat]? = some (S (ordW d)) := by
  obtain rfl | rfl | rfl | rfl | rfl | rfl | rfl : d = 1 ∨ d = 2 ∨ d = 3 ∨ d = 4 ∨ d = 5 ∨ d = 6 ∨ d = 7 := by omega
  all_goals rfl
theorem lit_ord {d : Int} (h : 1 ≤ d ∧ d ≤ 7) : ([S [112, 97, 108, 101], S [102, 101, 115, 115], S [98, 101, 110, 100], S [99, 104, 101, 118, 114, 111, 110], S [99, 114, 111, 115, 115], S [115, 97, 108, 116, 105, 114, 101], S [99, 104, 105, 101, 102]] : List V)[(d - 1).toNat]? = some (S (ordW d)) := by
  obtain rfl | rfl | rfl | rfl | rfl | rfl | rfl : d = 1 ∨ d = 2 ∨ d = 3 ∨ d = 4 ∨ d = 5 ∨ d = 6 ∨ d = 7 := by omega
  all_goals rfl
theorem lit_kind {d : Int} (h : 1 ≤ d ∧ d ≤ 8) : ([S [108, 105, 111, 110], S [101, 97, 103, 108, 101], S [102, 105, 115, 104], S [114, 111, 115, 101], S [115, 116, 97, 114], S [116, 111, 119, 101, 114], S [107, 101, 121], S [115, 119, 111, 114, 100]] : List V)[(d - 1).toNat]? = some (S (kindL.getD (d - 1).toNat [])) := by
  obtain rfl | rfl | rfl | rfl | rfl | rfl | rfl | rfl : d = 1 ∨ d = 2 ∨ d = 3 ∨ d = 4 ∨ d = 5 ∨ d = 6 ∨ d = 7 ∨ d = 8 := by omega
  all_goals rfl
theorem lit_count {d : Int} (h : 1 ≤ d ∧ d ≤ 6) : ([S [97], S [116, 119, 111], S [116, 104, 114, 101, 101], S [102, 111, 117, 114], S [102, 105, 118, 101], S [115, 105, 120]] : List V)[(d - 1).toNat]? = some (S (countL.getD (d - 1).toNat [])) := by
  obtain rfl | rfl | rfl | rfl | rfl | rfl : d = 1 ∨ d = 2 ∨ d = 3 ∨ d = 4 ∨ d = 5 ∨ d = 6 := by omega
  all_goals rfl
/-! ### The reference -/
theorem s_l2Word (x : Int) (h : inR x 1 9 = true) : PCall Tryz.prog n_s_l2Word [I x] (S (tincW x)) := by
  have h' := inR_iff.1 h
  refine PCall.of fn_s_l2Word (by simp) ?_
  simp [c_s_l2Word, r_s_l2Word_0, r_s_l2Word_1]
  rw [wrap64 (n := x - 1) (by omega) (by omega), lit_tinc h']
  exact ⟨by omega, by simp⟩
theorem s_l3LineWord (x : Int) (h : 1 ≤ x ∧ x ≤ 4) : PCall Tryz.prog n_s_l3LineWord [I x] (S (lineW x)) := by
  refine PCall.of fn_s_l3LineWord (by simp) ?_
  simp [c_s_l3LineWord, r_s_l3LineWord_0, r_s_l3LineWord_1]
  rw [lit_line0 h]
  exact ⟨by omega, by simp⟩
set_option maxHeartbeats 1000000 in
theorem s_l3Text (f : Field) (h : fieldOk f = true) : PCall Tryz.prog n_s_l3Text [eField f] (S (fieldT f)) := by
  simp only [fieldOk, Bool.and_eq_true, inR_iff] at h
  obtain ⟨⟨⟨h1, h2⟩, h3⟩, h4⟩ := h
  have b1 := tincW_len f.first
  have b2 := tincW_len f.second
  have b3 := divW_len f.division
  have b4 := lineW_len f.line
  refine PCall.of fn_s_l3Text (by simp) ?_
  by_cases h0 : f.division = 0
  · simp [c_s_l3Text, r_s_l3Text_0, r_s_l3Text_1, r_s_l3Text_2, h0]
    exact callQ_v (PCall.arg (s_l2Word f.first (inR_iff.2 h3)) (by simp)) (by simp [fieldT, h0])
  · rw [if_neg h0] at h4
    simp only [Bool.and_eq_true, inR_iff] at h4
    simp [c_s_l3Text, r_s_l3Text_0, r_s_l3Text_1, r_s_l3Text_3, h0]
    rw [lit_div0 (d := f.division) (by omega)]
    refine ⟨by omega, ?_⟩
    simp [r_s_l3Text_4]
    by_cases hl : f.line = 0
    · refine ⟨fun h => by omega, fun _ => ?_⟩
      simp [r_s_l3Text_6, p_s_l3Text_6]
      repeat (refine ⟨by omega, ?_⟩)
      refine callD_v (PCall.arg (s_l2Word f.first (inR_iff.2 h3)) (by simp)) ?_ ?_ ?_
      · simp
      · simp
      simp
      repeat (refine ⟨by omega, ?_⟩)
      refine callD_v (PCall.arg (s_l2Word f.second (inR_iff.2 h4.1)) (by simp)) ?_ ?_ ?_
      · simp
      · simp
      simp
      repeat (refine ⟨by omega, ?_⟩)
      refine ⟨oEnd_of (by simp [p_s_l3Text_6]) (by simp), ?_⟩
      simp [fieldT, withL, h0, hl]
    · refine ⟨fun _ => ?_, fun h => by omega⟩
      simp [r_s_l3Text_5]
      repeat (refine ⟨by omega, ?_⟩)
      refine callQ_v (PCall.arg (s_l3LineWord f.line (by omega)) (by simp)) ?_
      simp
      repeat (refine ⟨by omega, ?_⟩)
      simp [r_s_l3Text_6, p_s_l3Text_6]
      repeat (refine ⟨by omega, ?_⟩)
      refine callD_v (PCall.arg (s_l2Word f.first (inR_iff.2 h3)) (by simp)) ?_ ?_ ?_
      · simp
      · simp
      simp
      repeat (refine ⟨by omega, ?_⟩)
      refine callD_v (PCall.arg (s_l2Word f.second (inR_iff.2 h4.1)) (by simp)) ?_ ?_ ?_
      · simp
      · simp
      simp
      repeat (refine ⟨by omega, ?_⟩)
      refine ⟨oEnd_of (by simp [p_s_l3Text_6]) (by simp), ?_⟩
      simp [fieldT, withL, h0, hl]
theorem s_l6Ordinary (o l : Int) (ho : 1 ≤ o ∧ o ≤ 7) (hl : 0 ≤ l ∧ l ≤ 4) : PCall Tryz.prog n_s_l6Ordinary [I o, I l] (S (ordT o l)) := by
  have b1 := ordW_len o
  have b2 := lineW_len l
  refine PCall.of fn_s_l6Ordinary (by simp) ?_
  simp [c_s_l6Ordinary, r_s_l6Ordinary_0, r_s_l6Ordinary_1]
  rw [lit_ord0 ho]
  repeat (refine ⟨by omega, ?_⟩)
  simp
  repeat (refine ⟨by omega, ?_⟩)
  simp [r_s_l6Ordinary_2]
  by_cases h0 : l = 0
  · refine ⟨fun h => by omega, fun _ => ?_⟩
    simp [r_s_l6Ordinary_4, ordT, withL, h0]
  · refine ⟨fun _ => ?_, fun h => by omega⟩
    simp [r_s_l6Ordinary_3]
    repeat (refine ⟨by omega, ?_⟩)
    refine callQ_v (PCall.arg (s_l3LineWord l (by omega)) (by simp)) ?_
    simp
    repeat (refine ⟨by omega, ?_⟩)
    simp [r_s_l6Ordinary_4, ordT, withL, h0]
theorem s_l6Join (o : Int) : PCall Tryz.prog n_s_l6Join [I o] (S (joinT o)) := by
  refine PCall.of fn_s_l6Join (by simp) ?_
  by_cases h0 : o = 0
  · simp [c_s_l6Join, r_s_l6Join_0, r_s_l6Join_1, r_s_l6Join_2, r_s_l6Join_3, r_s_l6Join_4, r_s_l6Join_5, r_s_l6Join_6, h0, joinT]
  · by_cases h7 : o = 7
    · simp [c_s_l6Join, r_s_l6Join_0, r_s_l6Join_1, r_s_l6Join_2, r_s_l6Join_3, r_s_l6Join_4, r_s_l6Join_5, r_s_l6Join_6, h7, joinT]
    · simp [c_s_l6Join, r_s_l6Join_0, r_s_l6Join_1, r_s_l6Join_2, r_s_l6Join_3, r_s_l6Join_4, r_s_l6Join_5, r_s_l6Join_6, h0, h7, joinT]
theorem s_l4Attitudes (k : Int) : PCall Tryz.prog n_s_l4Attitudes [I k] (.own 1 ((attitudes k).map S)) := by
  refine PCall.of fn_s_l4Attitudes (by simp) ?_
  by_cases h1 : k = 1
  · simp [c_s_l4Attitudes, r_s_l4Attitudes_0, r_s_l4Attitudes_1, r_s_l4Attitudes_2, r_s_l4Attitudes_3, r_s_l4Attitudes_4, r_s_l4Attitudes_5, r_s_l4Attitudes_6, r_s_l4Attitudes_7, r_s_l4Attitudes_8, h1, attitudes]
  by_cases h2 : k = 2
  · simp [c_s_l4Attitudes, r_s_l4Attitudes_0, r_s_l4Attitudes_1, r_s_l4Attitudes_2, r_s_l4Attitudes_3, r_s_l4Attitudes_4, r_s_l4Attitudes_5, r_s_l4Attitudes_6, r_s_l4Attitudes_7, r_s_l4Attitudes_8, h2, attitudes]
  by_cases h3 : k = 3
  · simp [c_s_l4Attitudes, r_s_l4Attitudes_0, r_s_l4Attitudes_1, r_s_l4Attitudes_2, r_s_l4Attitudes_3, r_s_l4Attitudes_4, r_s_l4Attitudes_5, r_s_l4Attitudes_6, r_s_l4Attitudes_7, r_s_l4Attitudes_8, h3, attitudes]
  simp [c_s_l4Attitudes, r_s_l4Attitudes_0, r_s_l4Attitudes_1, r_s_l4Attitudes_2, r_s_l4Attitudes_3, r_s_l4Attitudes_4, r_s_l4Attitudes_5, r_s_l4Attitudes_6, r_s_l4Attitudes_7, r_s_l4Attitudes_8, h1, h2, h3, attitudes]
theorem s_l4Word (k c : Int) (hk : 1 ≤ k ∧ k ≤ 8) : PCall Tryz.prog n_s_l4Word [I k, I c] (S (kindW k c)) := by
  have b := kindW_len k c
  have b0 := getD_len (l := kindL) (m := 12) (by decide) (k - 1).toNat
  refine PCall.of fn_s_l4Word (by simp) ?_
  simp [c_s_l4Word, r_s_l4Word_0, r_s_l4Word_1]
  rw [wrap64 (n := k - 1) (by omega) (by omega), lit_kind hk]
  repeat (refine ⟨by omega, ?_⟩)
  obtain ⟨w, hw⟩ : ∃ w, kindL.getD (k - 1).toNat [] = w := ⟨_, rfl⟩
  have e : kindW k c = w ++ (if 1 < c ∧ k ≠ 3 then [115] else []) := by rw [kindW, hw]
  rw [hw] at b0 ⊢
  rw [e]
  simp
  by_cases h1 : 1 < c
  · by_cases h3 : k = 3
    · simp [r_s_l4Word_2, r_s_l4Word_4, h1, h3]
    · simp [r_s_l4Word_2, r_s_l4Word_3, r_s_l4Word_4, h1, h3]
      omega
  · simp [r_s_l4Word_2, r_s_l4Word_4, h1]
theorem word_at' {l : List (List UInt8)} {i : Nat} (h : i < l.length) : l[i]? = some (l.getD i []) := by
  rw [List.getElem?_eq_getElem h, List.getD_eq_getElem?_getD, List.getElem?_eq_getElem h]
  rfl
theorem att_get {g : Group} (hg : groupOk g = true) (ha : 0 < g.attitude) : (g.attitude - 1).toNat < (attitudes g.kind).length ∧ ((attitudes g.kind).map S)[(g.attitude - 1).toNat]? = some (S ((attitudes g.kind).getD (g.attitude - 1).toNat [])) := by
  have hl := attitudes_len g.kind
  have h : (g.attitude - 1).toNat < (attitudes g.kind).length := by
    simp only [groupOk, Bool.and_eq_true, inR_iff] at hg
    obtain ⟨⟨⟨h1, h2⟩, h3⟩, h4⟩ := hg
    by_cases hk : g.kind ≤ 3
    · rw [if_pos hk] at h4
      rw [if_pos (by omega)] at hl
      have := inR_iff.1 h4
      omega
    · rw [if_neg hk] at h4
      have : g.attitude = 0 := by simpa using h4
      omega
  refine ⟨h, ?_⟩
  rw [List.getElem?_map, List.getElem?_eq_getElem h, List.getD_eq_getElem?_getD, List.getElem?_eq_getElem h]
  rfl
def bareT (g : Group) : List UInt8 := countW g.count g.kind ++ 32 :: (kindW g.kind g.count ++ (if 0 < g.attitude then 32 :: (attitudes g.kind).getD (g.attitude - 1).toNat [] else []))
theorem groupT_bare (g : Group) : groupT g = bareT g ++ 32 :: tincW g.tincture := by simp [groupT, bareT]
theorem groupOk_iff {g : Group} (h : groupOk g = true) : (1 ≤ g.count ∧ g.count ≤ 6) ∧ (1 ≤ g.kind ∧ g.kind ≤ 8) ∧ inR g.tincture 1 9 = true ∧ 0 ≤ g.attitude ∧ g.attitude ≤ 2 := by
  simp only [groupOk, Bool.and_eq_true, inR_iff] at h
  obtain ⟨⟨⟨h1, h2⟩, h3⟩, h4⟩ := h
  refine ⟨h1, h2, inR_iff.2 h3, ?_⟩
  split at h4
  · have := inR_iff.1 h4; omega
  · have : g.attitude = 0 := by simpa using h4
    omega
set_option maxHeartbeats 1000000 in
theorem s_l4Bare (g : Group) (h : groupOk g = true) : PCall Tryz.prog n_s_l4Bare [eGroup g] (S (bareT g)) := by
  obtain ⟨h1, h2, h3, h4⟩ := groupOk_iff h
  have b1 := countW_len g.count g.kind
  have b2 := kindW_len g.kind g.count
  have b3 := attW_len g.kind (g.attitude - 1).toNat
  refine PCall.of fn_s_l4Bare (by simp) ?_
  simp [c_s_l4Bare, r_s_l4Bare_0, r_s_l4Bare_1]
  rw [wrap64 (n := g.count - 1) (by omega) (by omega), lit_count h1]
  repeat (refine ⟨by omega, ?_⟩)
  obtain ⟨w, hw⟩ : ∃ w, countL.getD (g.count - 1).toNat [] = w := ⟨_, rfl⟩
  have e : countW g.count g.kind = if g.count = 1 ∧ g.kind = 2 then [97, 110] else w := by rw [countW, hw]
  rw [hw]
  obtain ⟨cw, hcw⟩ : ∃ cw, countW g.count g.kind = cw := ⟨_, rfl⟩
  have hB : bareT g = cw ++ 32 :: (kindW g.kind g.count ++ (if 0 < g.attitude then 32 :: (attitudes g.kind).getD (g.attitude - 1).toNat [] else [])) := by rw [bareT, hcw]
  rw [hcw] at b1 e
  rw [hB]
  simp
  rcases Classical.em (g.count = 1 ∧ g.kind = 2) with hc | hc
  case' inl =>
    rw [if_pos hc] at e
    simp [r_s_l4Bare_2, r_s_l4Bare_3, hc.1, hc.2]
    refine wk_of ⟨[(1, .ref 1 0 0), (3, S cw)], [(1, ⟨4, [eGroup g]⟩)], []⟩ (Wk.list rfl (by simp [e]) (by simp)) ?_
  case' inr =>
    rw [if_neg hc] at e
    have hc' : g.count = 1 → ¬ g.kind = 2 := fun a b => hc ⟨a, b⟩
    rcases Classical.em (g.count = 1) with hc1 | hc1
    case' inl =>
      simp [r_s_l4Bare_2, hc1, hc' hc1]
      refine wk_of ⟨[(1, .ref 1 0 0), (3, S cw)], [(1, ⟨4, [eGroup g]⟩)], []⟩ (Wk.list rfl (by simp [e]) (by simp)) ?_
    case' inr =>
      simp [r_s_l4Bare_2, hc1]
      refine wk_of ⟨[(1, .ref 1 0 0), (3, S cw)], [(1, ⟨4, [eGroup g]⟩)], []⟩ (Wk.list rfl (by simp [e]) (by simp)) ?_
  all_goals
    simp [r_s_l4Bare_4]
    repeat (refine ⟨by omega, ?_⟩)
    refine callQ_v (PCall.arg (s_l4Word g.kind g.count h2) (by simp)) ?_
    simp
    repeat (refine ⟨by omega, ?_⟩)
    simp [r_s_l4Bare_5]
    by_cases ha : 0 < g.attitude
    · obtain ⟨g1, g2⟩ := att_get h ha
      refine ⟨fun _ => ?_, fun h => by omega⟩
      simp [r_s_l4Bare_6, p_s_l4Bare_6]
      repeat (refine ⟨by omega, ?_⟩)
      refine callD_of (PCall.arg (s_l4Attitudes g.kind) (by simp)) rfl (.inl (by simp)) ?_ ?_ ?_
      · simp
      · simp
      simp
      rw [wrap64 (n := g.attitude - 1) (by omega) (by omega), word_at' g1]
      repeat (refine ⟨by omega, ?_⟩)
      obtain ⟨aw, haw⟩ : ∃ aw, (attitudes g.kind).getD (g.attitude - 1).toNat [] = aw := ⟨_, rfl⟩
      rw [haw] at b3 ⊢
      simp [ha]
      repeat (refine ⟨by omega, ?_⟩)
      refine ⟨oEnd_of (by simp [p_s_l4Bare_6]) (by simp), ?_⟩
      simp [r_s_l4Bare_7, ha]
    · refine ⟨fun h => by omega, fun _ => ?_⟩
      simp [r_s_l4Bare_7, ha]
theorem s_l4Text (g : Group) (h : groupOk g = true) : PCall Tryz.prog n_s_l4Text [eGroup g] (S (groupT g)) := by
  obtain ⟨h1, h2, h3, h4⟩ := groupOk_iff h
  have b0 := groupT_len g
  rw [groupT_bare] at b0 ⊢
  simp only [List.length_append, List.length_cons] at b0
  refine PCall.of fn_s_l4Text (by simp) ?_
  simp [c_s_l4Text, r_s_l4Text_0, r_s_l4Text_1, p_s_l4Text_1]
  refine callD_v (PCall.arg (s_l4Bare g h) (by simp)) ?_ ?_ ?_
  · simp
  · simp
  simp
  repeat (refine ⟨by omega, ?_⟩)
  refine callD_v (PCall.arg (s_l2Word g.tincture h3) (by simp)) ?_ ?_ ?_
  · simp
  · simp
  simp
  repeat (refine ⟨by omega, ?_⟩)
  exact oEnd_of (by simp [p_s_l4Text_1]) (by simp)
/-! ### The program's words -/
theorem i_tinctureWords : PCall Tryz.prog n_i_tinctureWords [] (.own 1 (tincL.map S)) := by
  refine PCall.of fn_i_tinctureWords (by simp) ?_
  simp [c_i_tinctureWords, r_i_tinctureWords_0, r_i_tinctureWords_1, tincL]
theorem i_lineWords : PCall Tryz.prog n_i_lineWords [] (.own 1 (lineL.map S)) := by
  refine PCall.of fn_i_lineWords (by simp) ?_
  simp [c_i_lineWords, r_i_lineWords_0, r_i_lineWords_1, lineL]
theorem i_divisionWords : PCall Tryz.prog n_i_divisionWords [] (.own 1 (divL.map S)) := by
  refine PCall.of fn_i_divisionWords (by simp) ?_
  simp [c_i_divisionWords, r_i_divisionWords_0, r_i_divisionWords_1, divL]
theorem i_ordinaryWords : PCall Tryz.prog n_i_ordinaryWords [] (.own 1 (ordL.map S)) := by
  refine PCall.of fn_i_ordinaryWords (by simp) ?_
  simp [c_i_ordinaryWords, r_i_ordinaryWords_0, r_i_ordinaryWords_1, ordL]
theorem i_kindWords : PCall Tryz.prog n_i_kindWords [] (.own 1 (kindL.map S)) := by
  refine PCall.of fn_i_kindWords (by simp) ?_
  simp [c_i_kindWords, r_i_kindWords_0, r_i_kindWords_1, kindL]
theorem i_tincture (x : Int) (h : inR x 1 9 = true) : PCall Tryz.prog n_i_tincture [I x] (S (tincW x)) := by
  have h' := inR_iff.1 h
  have hl : tincL.length = 9 := rfl
  have hw : tincL[(x - 1).toNat]? = some (tincW x) := word_at' (by omega)
  refine PCall.of fn_i_tincture (by simp) ?_
  simp [c_i_tincture, r_i_tincture_0, r_i_tincture_1]
  refine callQ_of i_tinctureWords rfl (.inl (by simp)) (by simp) ?_
  simp
  rw [wrap64 (n := x - 1) (by omega) (by omega), hw]
  exact ⟨by omega, by simp⟩
theorem i_withLine (t : List UInt8) (x : Int) (h : 0 ≤ x ∧ x ≤ 4) (ht : t.length ≤ 1000) : PCall Tryz.prog n_i_withLine [S t, I x] (S (withL t x)) := by
  have hl : lineL.length = 4 := rfl
  have b := lineW_len x
  refine PCall.of fn_i_withLine (by simp) ?_
  by_cases h0 : x = 0
  · simp [c_i_withLine, r_i_withLine_0, r_i_withLine_1, r_i_withLine_2, h0, withL]
  · have hw : lineL[(x - 1).toNat]? = some (lineW x) := word_at' (by omega)
    simp [c_i_withLine, r_i_withLine_0, r_i_withLine_1, r_i_withLine_3, h0]
    repeat (refine ⟨by omega, ?_⟩)
    refine callQ_of i_lineWords rfl (.inl (by simp)) (by simp) ?_
    simp
    repeat (refine ⟨by omega, ?_⟩)
    rw [wrap64 (n := x - 1) (by omega) (by omega), hw]
    repeat (refine ⟨by omega, ?_⟩)
    simp [withL, h0]
    try omega
theorem i_ordinaryStart (o l : Int) (ho : 1 ≤ o ∧ o ≤ 7) (hl : 0 ≤ l ∧ l ≤ 4) : PCall Tryz.prog n_i_ordinaryStart [I o, I l] (S (ordT o l)) := by
  have hL : ordL.length = 7 := rfl
  have b := ordW_len o
  have hw : ordL[(o - 1).toNat]? = some (ordW o) := word_at' (by omega)
  refine PCall.of fn_i_ordinaryStart (by simp) ?_
  simp [c_i_ordinaryStart, r_i_ordinaryStart_0, r_i_ordinaryStart_1]
  refine callQ_of i_ordinaryWords rfl (.inl (by simp)) (by simp) ?_
  simp
  rw [wrap64 (n := o - 1) (by omega) (by omega), hw]
  repeat (refine ⟨by omega, ?_⟩)
  simp
  repeat (refine ⟨by omega, ?_⟩)
  refine callQ_v (PCall.arg (i_withLine ([97, 32] ++ ordW o) l hl (by simp; omega)) (by simp)) ?_
  simp [ordT]
theorem i_countWord (c k : Int) (hc : 1 ≤ c ∧ c ≤ 6) : PCall Tryz.prog n_i_countWord [I c, I k] (S (countW c k)) := by
  refine PCall.of fn_i_countWord (by simp) ?_
  by_cases h1 : c = 1
  · by_cases h2 : k = 2
    · simp [c_i_countWord, r_i_countWord_0, r_i_countWord_1, r_i_countWord_2, h1, h2, countW]
    · simp [c_i_countWord, r_i_countWord_0, r_i_countWord_1, r_i_countWord_3, h1, h2, countW, countL]
      rw [show IntKind.i64.wrap 0 = 0 from rfl]
      simp [h1, h2, countW, countL]
  · have e : countW c k = countL.getD (c - 1).toNat [] := by rw [countW, if_neg (fun h => h1 h.1)]
    rw [e]
    simp [c_i_countWord, r_i_countWord_0, r_i_countWord_1, r_i_countWord_3, h1]
    rw [wrap64 (n := c - 1) (by omega) (by omega), lit_count hc]
    repeat (refine ⟨by omega, ?_⟩)
    simp
theorem i_kindWord (k c : Int) (hk : 1 ≤ k ∧ k ≤ 8) : PCall Tryz.prog n_i_kindWord [I k, I c] (S (kindW k c)) := by
  have hL : kindL.length = 8 := rfl
  have b0 := getD_len (l := kindL) (m := 12) (by decide) (k - 1).toNat
  have hk' : kindL[(k - 1).toNat]? = some (kindL.getD (k - 1).toNat []) := word_at' (by omega)
  obtain ⟨w, hw⟩ : ∃ w, kindL.getD (k - 1).toNat [] = w := ⟨_, rfl⟩
  have e : kindW k c = w ++ (if 1 < c ∧ k ≠ 3 then [115] else []) := by rw [kindW, hw]
  rw [hw] at b0 hk'
  rw [e]
  refine PCall.of fn_i_kindWord (by simp) ?_
  simp [c_i_kindWord, r_i_kindWord_0, r_i_kindWord_1]
  refine callQ_of i_kindWords rfl (.inl (by simp)) (by simp) ?_
  simp
  rw [wrap64 (n := k - 1) (by omega) (by omega), hk']
  repeat (refine ⟨by omega, ?_⟩)
  simp
  by_cases h1 : 1 < c
  · by_cases h3 : k = 3
    · simp [r_i_kindWord_2, r_i_kindWord_4, h1, h3]
    · simp [r_i_kindWord_2, r_i_kindWord_3, r_i_kindWord_4, h1, h3]
      omega
  · simp [r_i_kindWord_2, r_i_kindWord_4, h1]
end Go.Proofs.YtbeoijlggphklaaGreatDoor

/- The texts of arms, put together. -/
set_option linter.unusedVariables false
set_option linter.unusedSimpArgs false
namespace Go.Proofs.YtbeoijlggphklaaGreatDoor
open Go.Abs

set_option maxHeartbeats 1000000 in
theorem i_Field_text (f : Field) (h : fieldOk f = true) : PCall Tryz.prog n_i_Field_text [eField f] (S (fieldT f)) := by
  simp only [fieldOk, Bool.and_eq_true, inR_iff] at h
  obtain ⟨⟨⟨h1, h2⟩, h3⟩, h4⟩ := h
  have b1 := tincW_len f.first
  have b2 := tincW_len f.second
  have b3 := divW_len f.division
  have b4 := withL_len (divW f.division) f.line
  refine PCall.of fn_i_Field_text (by simp) ?_
  by_cases h0 : f.division = 0
  · simp [c_i_Field_text, r_i_Field_text_0, r_i_Field_text_1, r_i_Field_text_2, h0]
    exact callQ_v (PCall.arg (i_tincture f.first (inR_iff.2 h3)) (by simp)) (by simp [fieldT, h0])
  · rw [if_neg h0] at h4
    simp only [Bool.and_eq_true, inR_iff] at h4
    have hL : divL.length = 7 := rfl
    have hw : divL[(f.division - 1).toNat]? = some (divW f.division) := word_at' (by omega)
    simp [c_i_Field_text, r_i_Field_text_0, r_i_Field_text_1, r_i_Field_text_3, p_i_Field_text_3, h0]
    refine callD_of (PCall.arg (i_divisionWords) (by simp)) rfl (.inl (by simp)) ?_ ?_ ?_
    · simp
    · simp
    simp
    rw [wrap64 (n := f.division - 1) (by omega) (by omega), hw]
    repeat (refine ⟨by omega, ?_⟩)
    simp
    refine callD_v (PCall.arg (i_withLine (divW f.division) f.line (by omega) (by omega)) (by simp)) ?_ ?_ ?_
    · simp
    · simp
    simp
    repeat (refine ⟨by omega, ?_⟩)
    refine callD_v (PCall.arg (i_tincture f.first (inR_iff.2 h3)) (by simp)) ?_ ?_ ?_
    · simp
    · simp
    simp
    repeat (refine ⟨by omega, ?_⟩)
    refine callD_v (PCall.arg (i_tincture f.second (inR_iff.2 h4.1)) (by simp)) ?_ ?_ ?_
    · simp
    · simp
    simp
    repeat (refine ⟨by omega, ?_⟩)
    refine ⟨oEnd_of (by simp [p_i_Field_text_3]) (by simp), ?_⟩
    simp [fieldT, h0]
set_option maxHeartbeats 1000000 in
theorem i_Group_text (g : Group) (h : groupOk g = true) : PCall Tryz.prog n_i_Group_text [eGroup g] (S (groupT g)) := by
  obtain ⟨h1, h2, h3, h4⟩ := groupOk_iff h
  have b0 := groupT_len g
  have b1 := countW_len g.count g.kind
  have b2 := kindW_len g.kind g.count
  have b3 := attW_len g.kind (g.attitude - 1).toNat
  have b4 := tincW_len g.tincture
  refine PCall.of fn_i_Group_text (by simp) ?_
  simp [c_i_Group_text, r_i_Group_text_0, r_i_Group_text_1, p_i_Group_text_1]
  refine callD_v (PCall.arg (i_countWord g.count g.kind h1) (by simp)) ?_ ?_ ?_
  · simp
  · simp
  simp
  repeat (refine ⟨by omega, ?_⟩)
  refine callD_v (PCall.arg (i_kindWord g.kind g.count h2) (by simp)) ?_ ?_ ?_
  · simp
  · simp
  simp
  repeat (refine ⟨by omega, ?_⟩)
  refine ⟨oEnd_of (by simp [p_i_Group_text_1]) (by simp), ?_⟩
  simp [r_i_Group_text_2]
  by_cases ha : 0 < g.attitude
  · obtain ⟨g1, g2⟩ := att_get h ha
    refine ⟨fun _ => ?_, fun h => by omega⟩
    simp [r_i_Group_text_3, p_i_Group_text_3]
    refine callD_of (PCall.arg (i_attitudes g.kind) (by simp)) rfl (.inl (by simp)) ?_ ?_ ?_
    · simp
    · simp
    simp
    rw [wrap64 (n := g.attitude - 1) (by omega) (by omega), word_at' g1]
    repeat (refine ⟨by omega, ?_⟩)
    obtain ⟨aw, haw⟩ : ∃ aw, (attitudes g.kind).getD (g.attitude - 1).toNat [] = aw := ⟨_, rfl⟩
    have hG : groupT g = countW g.count g.kind ++ 32 :: (kindW g.kind g.count ++ (32 :: aw) ++ 32 :: tincW g.tincture) := by rw [groupT, haw, if_pos ha]
    rw [haw] at b3 ⊢
    rw [hG]
    simp
    repeat (refine ⟨by omega, ?_⟩)
    refine ⟨oEnd_of (by simp [p_i_Group_text_3]) (by simp), ?_⟩
    simp [r_i_Group_text_4]
    repeat (refine ⟨by omega, ?_⟩)
    refine callQ_v (PCall.arg (i_tincture g.tincture h3) (by simp)) ?_
    simp
    omega
  · have hG : groupT g = countW g.count g.kind ++ 32 :: (kindW g.kind g.count ++ [] ++ 32 :: tincW g.tincture) := by rw [groupT, if_neg ha]
    rw [hG]
    refine ⟨fun h => by omega, fun _ => ?_⟩
    simp [r_i_Group_text_4]
    repeat (refine ⟨by omega, ?_⟩)
    refine callQ_v (PCall.arg (i_tincture g.tincture h3) (by simp)) ?_
    simp
    omega
theorem arms_parts {a : Arms} (h : arms a = true) : (0 ≤ a.ordinary ∧ a.ordinary ≤ 7 ∧ (a.ordinary = 0 → g0 a.on = true) ∧ (a.ordinary ≠ 0 → (0 ≤ a.line ∧ a.line ≤ 4) ∧ inR a.tincture 1 9 = true)) ∧ (g0 a.on = false → groupOk a.on = true) ∧ (g0 a.around = false → groupOk a.around = true) := by
  simp only [arms, Bool.and_eq_true, Bool.or_eq_true] at h
  obtain ⟨⟨hf, har⟩, ho⟩ := h
  have hr : g0 a.around = false → groupOk a.around = true := fun e => har.resolve_left (by rw [e]; simp)
  by_cases h0 : a.ordinary = 0
  · rw [if_pos h0] at ho
    simp only [Bool.and_eq_true] at ho
    exact ⟨⟨by omega, by omega, fun _ => ho.2, fun h => absurd h0 h⟩, fun e => (by rw [ho.2] at e; cases e), hr⟩
  · rw [if_neg h0] at ho
    simp only [Bool.and_eq_true, Bool.or_eq_true] at ho
    obtain ⟨⟨⟨o1, o2⟩, o3⟩, o4⟩ := ho
    have o1 := inR_iff.1 o1
    have o2 := inR_iff.1 o2
    exact ⟨⟨by omega, by omega, fun h => absurd h h0, fun _ => ⟨o2, o3⟩⟩, fun e => o4.resolve_left (by rw [e]; simp), hr⟩
set_option maxHeartbeats 2000000 in
theorem s_l6Text (a : Arms) (h : arms a = true) : PCall Tryz.prog n_s_l6Text [eArms a] (S (armsT a)) := by
  have h' := h
  simp only [arms, Bool.and_eq_true] at h'
  obtain ⟨⟨hf, har⟩, ho⟩ := h'
  obtain ⟨hord, hon⟩ := arms_parts h
  have c1 := fieldT_len a.field
  have c2 := ordT_len a.ordinary a.line
  have c3 := tincW_len a.tincture
  have c4 := groupT_len a.on
  have c5 := groupT_len a.around
  have c6 := joinT_len a.ordinary
  obtain ⟨t1, ht1⟩ : ∃ t1, fieldT a.field ++ (if a.ordinary = 0 then [] else [44, 32] ++ ordT a.ordinary a.line ++ 32 :: tincW a.tincture) = t1 := ⟨_, rfl⟩
  obtain ⟨t2, ht2⟩ : ∃ t2, t1 ++ (if g0 a.on then [] else [32, 99, 104, 97, 114, 103, 101, 100, 32, 119, 105, 116, 104, 32] ++ groupT a.on) = t2 := ⟨_, rfl⟩
  have hT : armsT a = t2 ++ (if g0 a.around then [] else joinT a.ordinary ++ groupT a.around) := by rw [armsT, ht1, ht2]
  have d1 : t1.length ≤ 120 := by rw [← ht1]; split <;> simp <;> omega
  have d2 : t2.length ≤ 200 := by rw [← ht2]; split <;> simp <;> omega
  rw [hT]
  refine PCall.of fn_s_l6Text (by simp) ?_
  simp [c_s_l6Text, r_s_l6Text_0, r_s_l6Text_1]
  refine callQ_v (PCall.arg (s_l3Text a.field hf) (by simp)) ?_
  simp [r_s_l6Text_2]
  rcases Classical.em (a.ordinary = 0) with h0 | h0
  case' inl =>
    simp [h0]
    refine wk_of ⟨[(1, .ref 1 0 0), (3, S t1)], [(1, ⟨15, [eArms a]⟩)], []⟩ (Wk.list rfl (by simp [← ht1, h0]) (by simp)) ?_
  case' inr =>
    obtain ⟨hl, ht⟩ := hord.2.2.2 h0
    refine ⟨fun _ => ?a, fun h => absurd h (by omega)⟩
    case' a =>
      simp [r_s_l6Text_3, p_s_l6Text_3]
      repeat (refine ⟨by omega, ?_⟩)
      refine callD_v (PCall.arg (s_l6Ordinary a.ordinary a.line (by omega) hl) (by simp)) ?_ ?_ ?_
      · simp
      · simp
      simp
      repeat (refine ⟨by omega, ?_⟩)
      refine callD_v (PCall.arg (s_l2Word a.tincture ht) (by simp)) ?_ ?_ ?_
      · simp
      · simp
      simp
      repeat (refine ⟨by omega, ?_⟩)
      refine ⟨oEnd_of (by simp [p_s_l6Text_3]) (by simp), ?_⟩
      refine wk_of ⟨[(1, .ref 1 0 0), (3, S t1)], [(1, ⟨15, [eArms a]⟩)], []⟩ (Wk.list rfl (by simp [← ht1, h0]) (by simp)) ?_
  all_goals
    simp [r_s_l6Text_4]
    refine callQ_v (PCall.arg (s_l4None a.on) (by simp)) ?_
    rcases hg : g0 a.on with _ | _
    case' false =>
      simp [r_s_l6Text_5]
      repeat (refine ⟨by omega, ?_⟩)
      refine callQ_v (PCall.arg (s_l4Text a.on (hon.1 hg)) (by simp)) ?_
      simp
      repeat (refine ⟨by omega, ?_⟩)
      refine wk_of ⟨[(1, .ref 1 0 0), (3, S t2)], [(1, ⟨15, [eArms a]⟩)], []⟩ (Wk.list rfl (by simp [← ht2, hg]) (by simp)) ?_
    case' true =>
      simp
      refine wk_of ⟨[(1, .ref 1 0 0), (3, S t2)], [(1, ⟨15, [eArms a]⟩)], []⟩ (Wk.list rfl (by simp [← ht2, hg]) (by simp)) ?_
    all_goals
      simp [r_s_l6Text_6]
      refine callQ_v (PCall.arg (s_l4None a.around) (by simp)) ?_
      cases hr : g0 a.around with
      | true =>
        simp
        refine wk_of _ (Wk.refl _) ?_
        simp [r_s_l6Text_8]
      | false =>
        simp [r_s_l6Text_7, p_s_l6Text_7]
        refine callD_v (PCall.arg (s_l6Join a.ordinary) (by simp)) ?_ ?_ ?_
        · simp
        · simp
        simp
        repeat (refine ⟨by omega, ?_⟩)
        refine callD_v (PCall.arg (s_l4Text a.around (hon.2 hr)) (by simp)) ?_ ?_ ?_
        · simp
        · simp
        simp
        repeat (refine ⟨by omega, ?_⟩)
        refine ⟨oEnd_of (by simp [p_s_l6Text_7]) (by simp), ?_⟩
        refine wk_of _ (Wk.refl _) ?_
        simp [r_s_l6Text_8]
end Go.Proofs.YtbeoijlggphklaaGreatDoor

/- The text of arms in the program: pieces, joined. -/
set_option linter.unusedVariables false
set_option linter.unusedSimpArgs false
namespace Go.Proofs.YtbeoijlggphklaaGreatDoor
open Go.Abs

def piecesJ (f o n r : List UInt8) (c : Bool) : List UInt8 :=
  if o = [] then (if r = [] then f else f ++ [44, 32] ++ r) else
    (f ++ ([44, 32] ++ o)) ++ (if n = [] then [] else [32, 99, 104, 97, 114, 103, 101, 100, 32, 119, 105, 116, 104, 32] ++ n) ++ (if r = [] then [] else (if c then [32, 97, 98, 111, 118, 101, 32] else [32, 98, 101, 116, 119, 101, 101, 110, 32]) ++ r)
theorem i_pieces_joined (f o n r : List UInt8) (c : Bool) (hf : f.length ≤ 1000) (ho : o.length ≤ 1000) (hn : n.length ≤ 1000) (hr : r.length ≤ 1000) : PCall Tryz.prog n_i_pieces_joined [.agg [S f, S o, S n, S r, B c]] (S (piecesJ f o n r c)) := by
  refine PCall.of fn_i_pieces_joined (by simp) ?_
  rcases o with _ | ⟨a, o⟩
  · rcases r with _ | ⟨b, r⟩
    · simp [c_i_pieces_joined, r_i_pieces_joined_0, r_i_pieces_joined_1, r_i_pieces_joined_2, r_i_pieces_joined_3, piecesJ]
    · simp [c_i_pieces_joined, r_i_pieces_joined_0, r_i_pieces_joined_1, r_i_pieces_joined_2, r_i_pieces_joined_4, r_i_pieces_joined_5]
      simp at hr
      repeat (refine ⟨by omega, ?_⟩)
      simp [piecesJ]
  · simp at ho
    simp [c_i_pieces_joined, r_i_pieces_joined_0, r_i_pieces_joined_1, r_i_pieces_joined_2, r_i_pieces_joined_4, r_i_pieces_joined_6, r_i_pieces_joined_7]
    repeat (refine ⟨by omega, ?_⟩)
    rcases n with _ | ⟨d, n⟩ <;> rcases r with _ | ⟨b, r⟩ <;> cases c
    all_goals
      simp at hr hn
      simp [r_i_pieces_joined_8, r_i_pieces_joined_9, r_i_pieces_joined_10, r_i_pieces_joined_11, r_i_pieces_joined_12, r_i_pieces_joined_13, piecesJ]
    all_goals
      repeat (refine ⟨by omega, ?_⟩)
      try omega
def ordP (a : Arms) : List UInt8 := if a.ordinary = 0 then [] else ordT a.ordinary a.line ++ 32 :: tincW a.tincture
def grpP (g : Group) : List UInt8 := if g0 g then [] else groupT g
theorem armsT_pieces {a : Arms} (h : arms a = true) : armsT a = piecesJ (fieldT a.field) (ordP a) (grpP a.on) (grpP a.around) (decide (a.ordinary = 7)) := by
  obtain ⟨ho, _, _⟩ := arms_parts h
  have hne : ∀ g, groupT g ≠ [] := fun g => by simp [groupT]
  have hoe : a.ordinary ≠ 0 → ordP a ≠ [] := fun e => by simp [ordP, e]
  unfold armsT piecesJ grpP joinT
  by_cases h0 : a.ordinary = 0
  · have hon := ho.2.2.1 h0
    cases hr : g0 a.around <;> simp [h0, hon, hr, ordP, hne]
  · have := hoe h0
    cases hn : g0 a.on <;> cases hr : g0 a.around <;> by_cases h7 : a.ordinary = 7 <;> simp [h0, h7, ordP, hn, hr, hne, this]
end Go.Proofs.YtbeoijlggphklaaGreatDoor

/- The text of arms in the program, put together. -/
set_option linter.unusedVariables false
set_option linter.unusedSimpArgs false
namespace Go.Proofs.YtbeoijlggphklaaGreatDoor
open Go.Abs

def pieceSt (a : Arms) (f o n r : List UInt8) : AS := ⟨[(1, .ref 1 0 0), (2, .ref 2 0 0), (3, .ref 3 0 0)], [(1, ⟨15, [eArms a]⟩), (2, ⟨5, [.agg [S [], S [], S [], S [], B false]]⟩), (3, ⟨5, [.agg [S f, S o, S n, S r, B (a.ordinary == 7)]]⟩)], []⟩
def pieceSu (a : Arms) (f o n r : List UInt8) : AS := ⟨[(2, .ref 2 0 0), (3, .ref 3 0 0)], [(2, ⟨5, [.agg [S [], S [], S [], S [], B false]]⟩), (3, ⟨5, [.agg [S f, S o, S n, S r, B (a.ordinary == 7)]]⟩)], []⟩
set_option maxHeartbeats 2000000 in
theorem i_Arms_pieces (a : Arms) (h : arms a = true) : PCall Tryz.prog n_i_Arms_pieces [eArms a] (.agg [S (fieldT a.field), S (ordP a), S (grpP a.on), S (grpP a.around), B (a.ordinary == 7)]) := by
  have hf := arms_field h
  obtain ⟨hord, hon, har⟩ := arms_parts h
  have c1 := fieldT_len a.field
  have c2 := ordT_len a.ordinary a.line
  have c3 := tincW_len a.tincture
  have c4 := groupT_len a.on
  have c5 := groupT_len a.around
  refine PCall.of fn_i_Arms_pieces (by simp) ?_
  simp [c_i_Arms_pieces, r_i_Arms_pieces_0, r_i_Arms_pieces_1, p_i_Arms_pieces_1]
  refine callD_v (PCall.arg (i_Field_text a.field hf) (by simp)) ?_ ?_ ?_
  · simp
  · simp
  simp
  refine ⟨oEnd_of (by simp [p_i_Arms_pieces_1]) (by simp), ?_⟩
  refine wk_of (pieceSt a (fieldT a.field) [] [] []) (Wk.list rfl (by simp [pieceSt]) (by simp [pieceSt])) ?_
  simp [pieceSt, r_i_Arms_pieces_2]
  rcases Classical.em (a.ordinary = 0) with h0 | h0
  case' inl =>
    simp [h0]
    refine wk_of (pieceSt a (fieldT a.field) (ordP a) [] []) (Wk.list rfl (by simp [pieceSt, h0, ordP]) (by simp [pieceSt, h0, ordP])) ?_
  case' inr =>
    obtain ⟨hl, ht⟩ := hord.2.2.2 h0
    simp [h0, r_i_Arms_pieces_3, p_i_Arms_pieces_3]
    refine callD_v (PCall.arg (i_ordinaryStart a.ordinary a.line (by omega) hl) (by simp)) ?_ ?_ ?_
    · simp
    · simp
    simp
    repeat (refine ⟨by omega, ?_⟩)
    refine callD_v (PCall.arg (i_tincture a.tincture ht) (by simp)) ?_ ?_ ?_
    · simp
    · simp
    simp
    repeat (refine ⟨by omega, ?_⟩)
    refine ⟨oEnd_of (by simp [p_i_Arms_pieces_3]) (by simp), ?_⟩
    refine wk_of (pieceSt a (fieldT a.field) (ordP a) [] []) (Wk.list rfl (by simp [pieceSt, h0, ordP]) (by simp [pieceSt, h0, ordP])) ?_
  all_goals
    rcases hg : g0 a.on with _ | _
    case' false =>
      have hgn := hon hg
      have hg' : (a.on.count == 0 && (a.on.kind == 0 && (a.on.attitude == 0 && a.on.tincture == 0))) = false := hg
      simp [pieceSt, r_i_Arms_pieces_4, hg']
      simp [r_i_Arms_pieces_5]
      refine callQ_v (PCall.arg (i_Group_text a.on hgn) (by simp)) ?_
      simp
      refine wk_of (pieceSt a (fieldT a.field) (ordP a) (grpP a.on) []) (Wk.list rfl (by simp [pieceSt, grpP, hg]) (by simp [pieceSt, grpP, hg])) ?_
    case' true =>
      have hg' : (a.on.count == 0 && (a.on.kind == 0 && (a.on.attitude == 0 && a.on.tincture == 0))) = true := hg
      simp [pieceSt, r_i_Arms_pieces_4, hg']
      refine wk_of (pieceSt a (fieldT a.field) (ordP a) (grpP a.on) []) (Wk.list rfl (by simp [pieceSt, grpP, hg]) (by simp [pieceSt, grpP, hg])) ?_
    all_goals
      rcases hr : g0 a.around with _ | _
      case' false =>
        have hrn := har hr
        have hr' : (a.around.count == 0 && (a.around.kind == 0 && (a.around.attitude == 0 && a.around.tincture == 0))) = false := hr
        simp [pieceSt, r_i_Arms_pieces_6, hr']
        simp [r_i_Arms_pieces_7]
        refine callQ_v (PCall.arg (i_Group_text a.around hrn) (by simp)) ?_
        simp
        refine wk_of (pieceSu a (fieldT a.field) (ordP a) (grpP a.on) (grpP a.around)) (Wk.list rfl (by simp [pieceSu, grpP, hr]) (by simp [pieceSu, grpP, hr])) ?_
      case' true =>
        have hr' : (a.around.count == 0 && (a.around.kind == 0 && (a.around.attitude == 0 && a.around.tincture == 0))) = true := hr
        simp [pieceSt, r_i_Arms_pieces_6, hr']
        refine wk_of (pieceSu a (fieldT a.field) (ordP a) (grpP a.on) (grpP a.around)) (Wk.list rfl (by simp [pieceSu, grpP, hr]) (by simp [pieceSu, grpP, hr])) ?_
      all_goals
        simp [pieceSu, r_i_Arms_pieces_8]
theorem ordP_len (a : Arms) : (ordP a).length ≤ 50 := by
  have c2 := ordT_len a.ordinary a.line
  have c3 := tincW_len a.tincture
  unfold ordP
  split
  · simp
  · simp; omega
theorem grpP_len (g : Group) : (grpP g).length ≤ 60 := by
  have := groupT_len g
  unfold grpP
  split
  · simp
  · omega
theorem i_Arms_text (a : Arms) (h : arms a = true) : PCall Tryz.prog n_i_Arms_text [eArms a] (S (armsT a)) := by
  have e7 : (a.ordinary == 7) = decide (a.ordinary = 7) := by rw [Bool.eq_iff_iff]; simp
  have c1 := fieldT_len a.field
  have c2 := ordP_len a
  have c3 := grpP_len a.on
  have c4 := grpP_len a.around
  have hp := i_pieces_joined (fieldT a.field) (ordP a) (grpP a.on) (grpP a.around) (a.ordinary == 7) (by omega) (by omega) (by omega) (by omega)
  rw [armsT_pieces h, ← e7]
  refine PCall.of fn_i_Arms_text (by simp) ?_
  simp [c_i_Arms_text, r_i_Arms_text_0, r_i_Arms_text_1]
  refine callQ_of (PCall.arg (i_Arms_pieces a h) (by simp)) rfl (.inl (by simp)) (by simp) ?_
  simp
  refine callQ_v (PCall.arg hp (by simp)) ?_
  simp
end Go.Proofs.YtbeoijlggphklaaGreatDoor

/- The compact code of the functions, and that it is theirs: written by a program of this claim. -/
namespace Go.Proofs.YtbeoijlggphklaaGreatDoor
open Go.Abs
set_option maxRecDepth 100000
def r_i_entry_0 : List CO := [⟨none, (some 2), (.box 18 (.t 0))⟩, ⟨none, (some 4), (.mv (.k (.v (.slice none 0 0))))⟩]
def r_i_entry_1 : List CO := [⟨none, (some 8), (.faddr 0 (.t 2))⟩, ⟨none, (some 9), (.ld false 1 (.t 8))⟩, ⟨none, (some 10), (.call n_strconv_Itoa [(.t 9)])⟩, ⟨none, (some 11), (.bin .add .none (.t 10) (.k (.v (.string (bs [46, 32])))))⟩, ⟨none, (some 12), (.faddr 1 (.t 2))⟩, ⟨none, (some 13), (.ld false 1 (.t 12))⟩, ⟨none, (some 14), (.bin .add .none (.t 11) (.t 13))⟩, ⟨none, (some 15), (.bin .add .none (.t 14) (.k (.v (.string (bs [44, 32])))))⟩, ⟨none, (some 16), (.faddr 2 (.t 2))⟩, ⟨none, (some 17), (.ld false 1 (.t 16))⟩, ⟨none, (some 18), (.call n_strconv_Itoa [(.t 17)])⟩, ⟨none, (some 19), (.bin .add .none (.t 15) (.t 18))⟩, ⟨none, (some 20), (.bslice 1 (.v (.string (bs []))) 1 [(0, (.t 19))])⟩, ⟨none, (some 5), (.mv (.t 20))⟩]
def p_i_entry_1 : List (List Nat) := [[], [0], [0, 1], [0, 1, 2], [], [4], [0, 1, 2, 3, 4, 5], [0, 1, 2, 3, 4, 5, 6], [], [8], [0, 1, 2, 8, 9], [0, 1, 2, 3, 4, 5, 6, 7, 8, 9, 10], [0, 1, 2, 3, 4, 5, 6, 7, 8, 9, 10, 11], [0, 1, 2, 3, 4, 5, 6, 7, 8, 9, 10, 11, 12]]
def r_i_entry_2 : List CO := [⟨none, (some 21), (.faddr 3 (.t 2))⟩, ⟨none, (some 22), (.ld true 15 (.t 21))⟩, ⟨none, (some 23), (.call n_i_Arms_text [(.t 22)])⟩, ⟨none, (some 24), (.mv (.t 1))⟩, ⟨none, (some 25), (.bin .sub .none (.t 24) (.k (.v (.int .i64 (2)))))⟩, ⟨none, (some 26), (.call n_i_wrapped [(.t 23), (.t 25)])⟩, ⟨none, (some 27), (.len false (.t 26))⟩, ⟨none, (some 28), (.mv (.k (.v (.int .i64 (0)))))⟩]
def r_i_entry_3 : List CO := [⟨none, (some 29), (.bin .lss .none (.t 28) (.t 27))⟩]
def r_i_entry_4 : List CO := [⟨none, (some 30), (.iaddr 1 (.t 26) (.t 28))⟩, ⟨none, (some 31), (.ld false 1 (.t 30))⟩, ⟨none, (some 7), (.mv (.t 31))⟩]
def r_i_entry_5 : List CO := [⟨none, (some 32), (.mv (.t 5))⟩, ⟨none, (some 33), (.mv (.t 7))⟩, ⟨none, (some 34), (.bin .add .none (.k (.v (.string (bs [32, 32])))) (.t 33))⟩, ⟨none, (some 35), (.bslice 1 (.v (.string (bs []))) 1 [(0, (.t 34))])⟩, ⟨none, (some 36), (.app 1 16 (.t 32) (.t 35))⟩, ⟨none, (some 5), (.mv (.t 36))⟩]
def r_i_entry_6 : List CO := [⟨none, (some 37), (.bin .add .none (.t 28) (.k (.v (.int .i64 (1)))))⟩, ⟨none, (some 28), (.mv (.t 37))⟩]
def l_i_entry_7 : C := (.seq (.reg r_i_entry_3 [5, 26, 27, 28, 29]) (.seq (.cond (.t 29) .skip (.exit 0)) (.seq (.block 1 (.seq (.reg r_i_entry_4 [5, 7, 26, 27, 28]) (.reg r_i_entry_5 [5, 26, 27, 28]))) (.reg r_i_entry_6 [5, 26, 27, 28]))))
def r_i_entry_8 : List CO := [⟨none, (some 38), (.mv (.t 5))⟩, ⟨none, (some 4), (.mv (.t 38))⟩]
/-- loop.example/g00884/impl.entry -/
def c_i_entry : C := (.seq (.reg r_i_entry_0 [1, 2]) (.seq (.regD r_i_entry_1 p_i_entry_1 [1, 2, 5]) (.seq (.seq (.reg r_i_entry_2 [5, 26, 27, 28]) (.block 0 (.loop l_i_entry_7))) (.seq (.reg r_i_entry_8 [4]) .ret))))
def k_i_entry : Nat → List Nat
  | 0 => [1, 2]
  | 1 => [1, 2, 5]
  | 2 => [5, 26, 27, 28]
  | 3 => [5, 26, 27, 28, 29]
  | 4 => [5, 7, 26, 27, 28]
  | 5 => [5, 26, 27, 28]
  | 6 => [5, 26, 27, 28]
  | 7 => [4]
  | _ => []
theorem fn_i_entry : FnC Tryz.prog n_i_entry c_i_entry [(.tmp 4)] 39 :=
  ⟨Tryz.f58, _, k_i_entry, Tryz.func58, rfl, by kernel_rfl, by kernel_rfl, by kernel_rfl, rfl⟩
end Go.Proofs.YtbeoijlggphklaaGreatDoor

/- Orders and pages of a roll, as plain rows. No program in sight. -/
set_option linter.unusedVariables false
set_option linter.unusedSimpArgs false
namespace Go.Proofs.YtbeoijlggphklaaGreatDoor
open Go.Abs

/-- x is put into a row from its right end, before those of which p holds. -/
def insR {α : Type} (p : α → Bool) (x : α) (l : List α) : List α := l.take (l.length - (l.reverse.takeWhile p).length) ++ x :: l.drop (l.length - (l.reverse.takeWhile p).length)
theorem insR_at {α : Type} {p : α → Bool} {x : α} {l : List α} {j : Nat} (hj : j ≤ l.length) (h1 : ∀ q (h : q < l.length), j ≤ q → p l[q] = true) (h2 : ∀ h : 0 < j, p (l[j - 1]'(by omega)) = false) :
    insR p x l = l.take j ++ x :: l.drop j := by
  have e : (l.reverse.takeWhile p).length = l.length - j := by
    have h0 : l.reverse = (l.drop j).reverse ++ (l.take j).reverse := by rw [← List.reverse_append, List.take_append_drop]
    have h3 : ∀ a ∈ (l.drop j).reverse, p a = true := by
      intro a ha
      rw [List.mem_reverse] at ha
      obtain ⟨q, hq, rfl⟩ := List.getElem_of_mem ha
      rw [List.getElem_drop]
      exact h1 _ _ (by omega)
    have h4 : (l.take j).reverse.takeWhile p = [] := by
      cases j with
      | zero => simp
      | succ j =>
        have := h2 (by omega)
        rw [List.take_succ_eq_append_getElem (by omega), List.reverse_append]
        simp only [Nat.add_sub_cancel] at this
        simp [this]
    rw [h0, List.takeWhile_append_of_pos h3, h4]
    simp
  unfold insR
  rw [e, show l.length - (l.length - j) = j by omega]
theorem insR_len {α : Type} (p : α → Bool) (x : α) (l : List α) : (insR p x l).length = l.length + 1 := by
  unfold insR
  generalize l.length - (l.reverse.takeWhile p).length = k
  rw [List.length_append, List.length_cons, List.length_take, List.length_drop]; omega
theorem insR_mem {α : Type} {p : α → Bool} {x y : α} {l : List α} : y ∈ insR p x l ↔ y = x ∨ y ∈ l := by
  unfold insR
  generalize l.length - (l.reverse.takeWhile p).length = k
  rw [List.mem_append, List.mem_cons]
  conv => rhs; rw [← List.take_append_drop k l, List.mem_append]
  constructor
  · rintro (h | h | h)
    · exact .inr (.inl h)
    · exact .inl h
    · exact .inr (.inr h)
  · rintro (h | h | h)
    · exact .inr (.inl h)
    · exact .inl h
    · exact .inr (.inr h)
theorem takeWhile_congr {α : Type} {p q : α → Bool} : ∀ {l : List α}, (∀ y ∈ l, p y = q y) → l.takeWhile p = l.takeWhile q
  | [], _ => rfl
  | x :: l, h => by
    rw [List.takeWhile_cons, List.takeWhile_cons, h x (by simp), takeWhile_congr fun y hy => h y (by simp [hy])]
theorem insR_congr {α : Type} {p q : α → Bool} {x : α} {l : List α} (h : ∀ y ∈ l, p y = q y) : insR p x l = insR q x l := by
  unfold insR
  rw [takeWhile_congr (q := q) fun y hy => h y (List.mem_reverse.1 hy)]
theorem insR_map {α β : Type} (f : β → α) (p : α → Bool) (x : β) (l : List β) : insR p (f x) (l.map f) = (insR (fun y => p (f y)) x l).map f := by
  have e : ((l.map f).reverse.takeWhile p).length = (l.reverse.takeWhile fun y => p (f y)).length := by
    rw [← List.map_reverse, List.takeWhile_map, List.length_map]; rfl
  unfold insR
  rw [e, List.length_map, List.map_append, List.map_cons, List.map_take, List.map_drop]
/-- A row in order, stable. -/
def sortR {α : Type} (lt : α → α → Bool) (l : List α) : List α := l.foldl (fun acc x => insR (lt x) x acc) []
theorem sortR_snoc {α : Type} (lt : α → α → Bool) (l : List α) (x : α) : sortR lt (l ++ [x]) = insR (lt x) x (sortR lt l) := by
  unfold sortR
  rw [List.foldl_append]; rfl
theorem sortR_nil {α : Type} (lt : α → α → Bool) : sortR lt ([] : List α) = [] := rfl
/-- From the end. -/
theorem snoc_ind {α : Type} {P : List α → Prop} (h0 : P []) (h1 : ∀ l x, P l → P (l ++ [x])) (l : List α) : P l := by
  have : ∀ n (l : List α), l.length = n → P l := by
    intro n
    induction n with
    | zero => intro l h; rw [List.length_eq_zero_iff.1 h]; exact h0
    | succ n ih =>
      intro l h
      have hne : l ≠ [] := by rintro rfl; simp at h
      rw [← List.dropLast_concat_getLast hne]
      exact h1 _ _ (ih _ (by rw [List.length_dropLast]; omega))
  exact this _ l rfl
theorem sortR_len {α : Type} (lt : α → α → Bool) (l : List α) : (sortR lt l).length = l.length := by
  induction l using snoc_ind with
  | h0 => rfl
  | h1 l x ih => rw [sortR_snoc, insR_len, ih, List.length_append]; rfl
theorem sortR_mem {α : Type} {lt : α → α → Bool} {l : List α} {y : α} : y ∈ sortR lt l ↔ y ∈ l := by
  induction l using snoc_ind with
  | h0 => rfl
  | h1 l x ih =>
    rw [sortR_snoc, insR_mem, ih, List.mem_append, List.mem_singleton]
    exact Or.comm
theorem sortR_map {α β : Type} (f : β → α) (lt : α → α → Bool) (l : List β) : sortR lt (l.map f) = (sortR (fun a b => lt (f a) (f b)) l).map f := by
  induction l using snoc_ind with
  | h0 => rfl
  | h1 l x ih => rw [List.map_append, List.map_cons, List.map_nil, sortR_snoc, ih, insR_map, sortR_snoc]
theorem sortR_none {α : Type} {lt : α → α → Bool} (h : ∀ x y, lt x y = false) (l : List α) : sortR lt l = l := by
  induction l using snoc_ind with
  | h0 => rfl
  | h1 l x ih =>
    rw [sortR_snoc, ih, insR_at (Nat.le_refl _) (fun q h1 h2 => by omega) (fun _ => h _ _)]
    simp

/-! ### Pages -/
def sizeB {α : Type} (sz : α → Nat) (p : List α) : Nat := (p.map sz).sum
theorem sizeB_snoc {α : Type} (sz : α → Nat) (p : List α) (x : α) : sizeB sz (p ++ [x]) = sizeB sz p + sz x := by simp [sizeB]
/-- Pages that are full, and the page that is being filled. -/
def packGo {α : Type} (sz : α → Nat) (h : Nat) : List (List α) → List α → List α → Option (List (List α))
  | done, cur, [] => some (if cur.isEmpty then done else done ++ [cur])
  | done, cur, x :: xs => if h < sz x then none else if cur.isEmpty then packGo sz h done [x] xs else if h < sizeB sz cur + sz x then packGo sz h (done ++ [cur]) [x] xs else packGo sz h done (cur ++ [x]) xs
/-- The pages on which things of some sizes stand. -/
def packs {α : Type} (sz : α → Nat) (h : Nat) (l : List α) : Option (List (List α)) := packGo sz h [] [] l
theorem packGo_map {α β : Type} (f : β → α) (sz : α → Nat) (h : Nat) : ∀ (l : List β) (done : List (List β)) (cur : List β), packGo sz h (done.map (·.map f)) (cur.map f) (l.map f) = (packGo (fun b => sz (f b)) h done cur l).map (·.map (·.map f))
  | [], done, cur => by
    cases cur <;> simp [packGo]
  | x :: xs, done, cur => by
    have e : sizeB sz (cur.map f) = sizeB (fun b => sz (f b)) cur := by simp [sizeB, Function.comp_def]
    have e0 : (cur.map f).isEmpty = cur.isEmpty := by cases cur <;> rfl
    rw [List.map_cons, packGo, packGo, e, e0]
    have h1 := packGo_map f sz h xs done [x]
    have h2 := packGo_map f sz h xs (done ++ [cur]) [x]
    have h3 := packGo_map f sz h xs done (cur ++ [x])
    simp only [List.map_append, List.map_cons, List.map_nil] at h1 h2 h3
    split
    · rfl
    split
    · exact h1
    split
    · exact h2
    · exact h3
theorem packs_map {α β : Type} (f : β → α) (sz : α → Nat) (h : Nat) (l : List β) : packs sz h (l.map f) = (packs (fun b => sz (f b)) h l).map (·.map (·.map f)) := packGo_map f sz h l [] []
/-- What is on pages. -/
theorem packGo_flat {α : Type} {sz : α → Nat} {h : Nat} : ∀ (l : List α) (done : List (List α)) (cur : List α) (ps : List (List α)), packGo sz h done cur l = some ps → ps.flatten = done.flatten ++ cur ++ l
  | [], done, cur, ps, e => by
    rw [packGo] at e
    cases cur with
    | nil => simp at e; simp [← e]
    | cons a t => simp at e; simp [← e]
  | x :: xs, done, cur, ps, e => by
    rw [packGo] at e
    split at e
    · cases e
    split at e
    · rename_i hc
      rw [packGo_flat xs _ _ ps e]
      rw [List.isEmpty_iff.1 hc]; simp
    split at e
    · rw [packGo_flat xs _ _ ps e]; simp
    · rw [packGo_flat xs _ _ ps e]; simp
theorem packs_flat {α : Type} {sz : α → Nat} {h : Nat} {l : List α} {ps : List (List α)} (e : packs sz h l = some ps) : ps.flatten = l := by
  have := packGo_flat _ _ _ _ e
  simpa using this
/-- No page is empty, none too long. -/
theorem packGo_ok {α : Type} {sz : α → Nat} {h : Nat} : ∀ (l : List α) (done : List (List α)) (cur : List α) (ps : List (List α)), (∀ p ∈ done, p ≠ [] ∧ sizeB sz p ≤ h) → sizeB sz cur ≤ h → packGo sz h done cur l = some ps → ∀ p ∈ ps, p ≠ [] ∧ sizeB sz p ≤ h
  | [], done, cur, ps, hd, hc, e => by
    rw [packGo] at e
    cases cur with
    | nil => simp at e; rw [← e]; exact hd
    | cons a t =>
      simp at e
      rw [← e]
      intro p hp
      rw [List.mem_append, List.mem_singleton] at hp
      rcases hp with hp | rfl
      · exact hd p hp
      · exact ⟨by simp, hc⟩
  | x :: xs, done, cur, ps, hd, hc, e => by
    rw [packGo] at e
    split at e
    · cases e
    split at e
    · exact packGo_ok xs _ _ ps hd (by simp [sizeB]; omega) e
    split at e
    · rename_i hx hce _
      refine packGo_ok xs _ _ ps (fun p hp => ?_) (by simp [sizeB]; omega) e
      rw [List.mem_append, List.mem_singleton] at hp
      rcases hp with hp | rfl
      · exact hd p hp
      · exact ⟨by rintro rfl; exact hce rfl, hc⟩
    · exact packGo_ok xs _ _ ps hd (by rw [sizeB_snoc]; omega) e
theorem packs_ok {α : Type} {sz : α → Nat} {h : Nat} {l : List α} {ps : List (List α)} (e : packs sz h l = some ps) : ∀ p ∈ ps, p ≠ [] ∧ sizeB sz p ≤ h :=
  packGo_ok l [] [] ps (by simp) (by simp [sizeB]) e
/-- The page of each. -/
def ofGo {α : Type} : Nat → List (List α) → List Nat
  | _, [] => []
  | k, p :: ps => List.replicate p.length (k + 1) ++ ofGo (k + 1) ps
theorem ofGo_map {α β : Type} (f : List α → List β) (hf : ∀ p, (f p).length = p.length) : ∀ (k : Nat) (ps : List (List α)), ofGo k (ps.map f) = ofGo k ps
  | _, [] => rfl
  | k, p :: ps => by rw [List.map_cons, ofGo, ofGo, hf, ofGo_map f hf (k + 1) ps]
theorem ofGo_append {α : Type} : ∀ (k : Nat) (ps qs : List (List α)), ofGo k (ps ++ qs) = ofGo k ps ++ ofGo (k + ps.length) qs
  | k, [], qs => by simp [ofGo]
  | k, p :: ps, qs => by rw [List.cons_append, ofGo, ofGo, ofGo_append (k + 1) ps qs, List.append_assoc, List.length_cons, show k + 1 + ps.length = k + (ps.length + 1) by omega]
theorem ofGo_len {α : Type} : ∀ (k : Nat) (ps : List (List α)), (ofGo k ps).length = ps.flatten.length
  | _, [] => rfl
  | k, p :: ps => by rw [ofGo, List.length_append, List.length_replicate, ofGo_len (k + 1) ps, List.flatten_cons, List.length_append]
/-! ### How far the pages have come -/
def PagedAt {α : Type} (sz : α → Nat) (h : Nat) (L : List α) (k : Nat) (P : List (List α)) : Prop :=
  (k = 0 ∧ P = []) ∨ ∃ done cur, P = done ++ [cur] ∧ cur ≠ [] ∧ packs sz h L = packGo sz h done cur (L.drop k)
section
variable {α : Type} {sz : α → Nat} {h : Nat} {L : List α} {k : Nat} {P : List (List α)}
theorem PagedAt.fail (hp : PagedAt sz h L k P) (hk : k < L.length) (hs : h < sz L[k]) : packs sz h L = none := by
  rcases hp with ⟨rfl, rfl⟩ | ⟨done, cur, rfl, hc, e⟩
  · cases L with
    | nil => simp at hk
    | cons x L =>
      simp at hs
      rw [packs, packGo, if_pos hs]
  · rw [e, List.drop_eq_getElem_cons hk, packGo, if_pos hs]
theorem PagedAt.new (hp : PagedAt sz h L k P) (hk : k < L.length) (hs : ¬ h < sz L[k]) (hn : P = [] ∨ ∃ done cur, P = done ++ [cur] ∧ h < sizeB sz cur + sz L[k]) : PagedAt sz h L (k + 1) (P ++ [[L[k]]]) := by
  refine .inr ⟨P, [L[k]], rfl, by simp, ?_⟩
  rcases hp with ⟨rfl, rfl⟩ | ⟨done, cur, rfl, hc, e⟩
  · cases L with
    | nil => simp at hk
    | cons x L =>
      simp at hs
      rw [packs, packGo, if_neg (by omega)]
      simp
  · have hc' : cur.isEmpty = false := by cases cur <;> simp_all
    rcases hn with hn | ⟨done', cur', e2, hn⟩
    · simp at hn
    · have e3 := List.append_inj' e2 rfl
      simp only [List.cons.injEq, and_true] at e3
      obtain ⟨rfl, rfl⟩ := e3
      rw [e, List.drop_eq_getElem_cons hk, packGo, if_neg hs, hc', if_neg (by simp), if_pos hn]
theorem PagedAt.add {done : List (List α)} {cur : List α} (hp : PagedAt sz h L k (done ++ [cur])) (hk : k < L.length) (hs : ¬ h < sz L[k]) (hn : ¬ h < sizeB sz cur + sz L[k]) : PagedAt sz h L (k + 1) (done ++ [cur ++ [L[k]]]) := by
  rcases hp with ⟨_, e⟩ | ⟨done', cur', e2, hc, e⟩
  · simp at e
  · have e3 := List.append_inj' e2 rfl
    simp only [List.cons.injEq, and_true] at e3
    obtain ⟨rfl, rfl⟩ := e3
    have hc' : cur.isEmpty = false := by cases cur <;> simp_all
    exact .inr ⟨done, cur ++ [L[k]], rfl, by simp, by rw [e, List.drop_eq_getElem_cons hk, packGo, if_neg hs, hc', if_neg (by simp), if_neg hn]⟩
theorem PagedAt.done (hp : PagedAt sz h L L.length P) : packs sz h L = some P := by
  rcases hp with ⟨h0, rfl⟩ | ⟨done, cur, rfl, hc, e⟩
  · have : L = [] := List.length_eq_zero_iff.1 h0
    subst this; rfl
  · have hc' : cur.isEmpty = false := by cases cur <;> simp_all
    rw [e, List.drop_length, packGo, hc']; rfl
end
end Go.Proofs.YtbeoijlggphklaaGreatDoor

/- The compact code of the functions, and that it is theirs: written by a program of this claim. -/
namespace Go.Proofs.YtbeoijlggphklaaGreatDoor
open Go.Abs
set_option maxRecDepth 100000
def r_i_wrapped_0 : List CO := [⟨none, (some 4), (.mv (.k (.v (.slice none 0 0))))⟩]
def r_i_wrapped_1 : List CO := [⟨none, (some 9), (.bslice 1 (.v (.string (bs []))) 0 [])⟩, ⟨none, (some 5), (.mv (.t 9))⟩]
def r_i_wrapped_2 : List CO := [⟨none, (some 10), (.mv (.t 0))⟩, ⟨none, (some 11), (.call n_strings_Split [(.t 10), (.k (.v (.string (bs [32]))))])⟩, ⟨none, (some 12), (.len false (.t 11))⟩, ⟨none, (some 13), (.mv (.k (.v (.int .i64 (0)))))⟩]
def r_i_wrapped_3 : List CO := [⟨none, (some 14), (.bin .lss .none (.t 13) (.t 12))⟩]
def r_i_wrapped_4 : List CO := [⟨none, (some 15), (.iaddr 1 (.t 11) (.t 13))⟩, ⟨none, (some 16), (.ld false 1 (.t 15))⟩, ⟨none, (some 7), (.mv (.t 16))⟩]
def r_i_wrapped_5 : List CO := [⟨none, (some 17), (.mv (.t 5))⟩, ⟨none, (some 18), (.len false (.t 17))⟩, ⟨none, (some 8), (.mv (.t 18))⟩]
def r_i_wrapped_6 : List CO := [⟨none, (some 19), (.mv (.t 8))⟩, ⟨none, (some 20), (.bin .gtr .none (.t 19) (.k (.v (.int .i64 (0)))))⟩, ⟨none, (some 21), (.mv (.t 20))⟩, ⟨(some (21, true)), (some 22), (.mv (.t 5))⟩, ⟨(some (21, true)), (some 23), (.mv (.t 8))⟩, ⟨(some (21, true)), (some 24), (.bin .sub .none (.t 23) (.k (.v (.int .i64 (1)))))⟩, ⟨(some (21, true)), (some 25), (.iaddr 1 (.t 22) (.t 24))⟩, ⟨(some (21, true)), (some 26), (.ld false 1 (.t 25))⟩, ⟨(some (21, true)), (some 27), (.len true (.t 26))⟩, ⟨(some (21, true)), (some 28), (.bin .add .none (.t 27) (.k (.v (.int .i64 (1)))))⟩, ⟨(some (21, true)), (some 29), (.mv (.t 7))⟩, ⟨(some (21, true)), (some 30), (.len true (.t 29))⟩, ⟨(some (21, true)), (some 31), (.bin .add .none (.t 28) (.t 30))⟩, ⟨(some (21, true)), (some 32), (.mv (.t 1))⟩, ⟨(some (21, true)), (some 33), (.bin .leq .none (.t 31) (.t 32))⟩, ⟨none, (some 34), (.pick (.t 21) (.t 33) (.k (.v (.bool false))))⟩]
def r_i_wrapped_7 : List CO := [⟨none, (some 35), (.mv (.t 5))⟩, ⟨none, (some 36), (.mv (.t 8))⟩, ⟨none, (some 37), (.bin .sub .none (.t 36) (.k (.v (.int .i64 (1)))))⟩, ⟨none, (some 38), (.iaddr 1 (.t 35) (.t 37))⟩, ⟨none, (some 39), (.ld false 1 (.t 38))⟩, ⟨none, (some 40), (.mv (.t 7))⟩, ⟨none, (some 41), (.bin .add .none (.k (.v (.string (bs [32])))) (.t 40))⟩, ⟨none, (some 42), (.bin .add .none (.t 39) (.t 41))⟩, ⟨none, (some 43), (.iaddr 1 (.t 35) (.t 37))⟩, ⟨none, none, (.st 1 (.t 43) (.t 42))⟩]
def r_i_wrapped_8 : List CO := [⟨none, (some 44), (.mv (.t 5))⟩, ⟨none, (some 45), (.mv (.t 7))⟩, ⟨none, (some 46), (.bslice 1 (.v (.string (bs []))) 1 [(0, (.t 45))])⟩, ⟨none, (some 47), (.app 1 16 (.t 44) (.t 46))⟩, ⟨none, (some 5), (.mv (.t 47))⟩]
def r_i_wrapped_9 : List CO := [⟨none, (some 48), (.bin .add .none (.t 13) (.k (.v (.int .i64 (1)))))⟩, ⟨none, (some 13), (.mv (.t 48))⟩]
def l_i_wrapped_10 : C := (.seq (.reg r_i_wrapped_3 [1, 5, 11, 12, 13, 14]) (.seq (.cond (.t 14) .skip (.exit 0)) (.seq (.block 1 (.seq (.reg r_i_wrapped_4 [1, 5, 7, 11, 12, 13]) (.seq (.reg r_i_wrapped_5 [1, 5, 7, 8, 11, 12, 13]) (.seq (.reg r_i_wrapped_6 [1, 5, 7, 8, 11, 12, 13, 34]) (.cond (.t 34) (.reg r_i_wrapped_7 [1, 5, 11, 12, 13]) (.reg r_i_wrapped_8 [1, 5, 11, 12, 13])))))) (.reg r_i_wrapped_9 [1, 5, 11, 12, 13]))))
def r_i_wrapped_11 : List CO := [⟨none, (some 49), (.mv (.t 5))⟩, ⟨none, (some 4), (.mv (.t 49))⟩]
/-- loop.example/g00884/impl.wrapped -/
def c_i_wrapped : C := (.seq (.reg r_i_wrapped_0 [0, 1]) (.seq (.reg r_i_wrapped_1 [0, 1, 5]) (.seq (.seq (.reg r_i_wrapped_2 [1, 5, 11, 12, 13]) (.block 0 (.loop l_i_wrapped_10))) (.seq (.reg r_i_wrapped_11 [4]) .ret))))
def k_i_wrapped : Nat → List Nat
  | 0 => [0, 1]
  | 1 => [0, 1, 5]
  | 2 => [1, 5, 11, 12, 13]
  | 3 => [1, 5, 11, 12, 13, 14]
  | 4 => [1, 5, 7, 11, 12, 13]
  | 5 => [1, 5, 7, 8, 11, 12, 13]
  | 6 => [1, 5, 7, 8, 11, 12, 13, 34]
  | 7 => [1, 5, 11, 12, 13]
  | 8 => [1, 5, 11, 12, 13]
  | 9 => [1, 5, 11, 12, 13]
  | 10 => [4]
  | _ => []
theorem fn_i_wrapped : FnC Tryz.prog n_i_wrapped c_i_wrapped [(.tmp 4)] 50 :=
  ⟨Tryz.f101, _, k_i_wrapped, Tryz.func101, rfl, by kernel_rfl, by kernel_rfl, by kernel_rfl, rfl⟩
end Go.Proofs.YtbeoijlggphklaaGreatDoor

/- The compact code of the functions, and that it is theirs: written by a program of this claim. -/
namespace Go.Proofs.YtbeoijlggphklaaGreatDoor
open Go.Abs
set_option maxRecDepth 100000
def r_strings_genSplit_0 : List CO := [⟨none, (some 8), (.mv (.k (.v (.slice none 0 0))))⟩]
def r_strings_genSplit_1 : List CO := [⟨none, (some 12), (.mv (.t 3))⟩, ⟨none, (some 13), (.bin .eql .none (.t 12) (.k (.v (.int .i64 (0)))))⟩]
def r_strings_genSplit_2 : List CO := [⟨none, (some 8), (.mv (.k (.v (.slice none 0 0))))⟩]
def r_strings_genSplit_3 : List CO := [⟨none, (some 14), (.mv (.t 1))⟩, ⟨none, (some 15), (.bin .eql .none (.t 14) (.k (.v (.string (bs [])))))⟩]
def r_strings_genSplit_4 : List CO := [⟨none, (some 16), (.mv (.t 0))⟩, ⟨none, (some 17), (.mv (.t 3))⟩, ⟨none, (some 18), (.call n_strings_explode [(.t 16), (.t 17)])⟩, ⟨none, (some 8), (.mv (.t 18))⟩]
def r_strings_genSplit_5 : List CO := [⟨none, (some 19), (.mv (.t 3))⟩, ⟨none, (some 20), (.bin .lss .none (.t 19) (.k (.v (.int .i64 (0)))))⟩]
def r_strings_genSplit_6 : List CO := [⟨none, (some 21), (.mv (.t 0))⟩, ⟨none, (some 22), (.mv (.t 1))⟩, ⟨none, (some 23), (.call n_strings_Count [(.t 21), (.t 22)])⟩, ⟨none, (some 24), (.bin .add .none (.t 23) (.k (.v (.int .i64 (1)))))⟩, ⟨none, (some 3), (.mv (.t 24))⟩]
def r_strings_genSplit_7 : List CO := [⟨none, (some 25), (.mv (.t 3))⟩, ⟨none, (some 26), (.mv (.t 0))⟩, ⟨none, (some 27), (.len true (.t 26))⟩, ⟨none, (some 28), (.bin .add .none (.t 27) (.k (.v (.int .i64 (1)))))⟩, ⟨none, (some 29), (.mm false [(.t 25), (.t 28)])⟩, ⟨none, (some 3), (.mv (.t 29))⟩]
def r_strings_genSplit_8 : List CO := [⟨none, (some 30), (.mv (.t 3))⟩, ⟨none, (some 31), (.mks 1 (.v (.string (bs []))) 16 (.t 30) (.t 30))⟩, ⟨none, (some 9), (.mv (.t 31))⟩]
def r_strings_genSplit_9 : List CO := [⟨none, (some 32), (.mv (.t 3))⟩, ⟨none, (some 33), (.bin .sub .none (.t 32) (.k (.v (.int .i64 (1)))))⟩, ⟨none, (some 3), (.mv (.t 33))⟩]
def r_strings_genSplit_10 : List CO := [⟨none, (some 10), (.mv (.k (.v (.int .i64 (0)))))⟩]
def r_strings_genSplit_11 : List CO := [⟨none, (some 34), (.mv (.t 10))⟩, ⟨none, (some 35), (.mv (.t 3))⟩, ⟨none, (some 36), (.bin .lss .none (.t 34) (.t 35))⟩]
def r_strings_genSplit_12 : List CO := [⟨none, (some 37), (.mv (.t 0))⟩, ⟨none, (some 38), (.mv (.t 1))⟩, ⟨none, (some 39), (.call n_strings_Index [(.t 37), (.t 38)])⟩, ⟨none, (some 11), (.mv (.t 39))⟩]
def r_strings_genSplit_13 : List CO := [⟨none, (some 40), (.mv (.t 11))⟩, ⟨none, (some 41), (.bin .lss .none (.t 40) (.k (.v (.int .i64 (0)))))⟩]
def r_strings_genSplit_14 : List CO := [⟨none, (some 42), (.mv (.t 9))⟩, ⟨none, (some 43), (.mv (.t 10))⟩, ⟨none, (some 44), (.mv (.t 0))⟩, ⟨none, (some 45), (.mv (.t 11))⟩, ⟨none, (some 46), (.mv (.t 2))⟩, ⟨none, (some 47), (.bin .add .none (.t 45) (.t 46))⟩, ⟨none, (some 48), (.slc none (.t 44) none (some (.t 47)))⟩, ⟨none, (some 49), (.iaddr 1 (.t 42) (.t 43))⟩, ⟨none, none, (.st 1 (.t 49) (.t 48))⟩]
def r_strings_genSplit_15 : List CO := [⟨none, (some 50), (.mv (.t 0))⟩, ⟨none, (some 51), (.mv (.t 11))⟩, ⟨none, (some 52), (.mv (.t 1))⟩, ⟨none, (some 53), (.len true (.t 52))⟩, ⟨none, (some 54), (.bin .add .none (.t 51) (.t 53))⟩, ⟨none, (some 55), (.slc none (.t 50) (some (.t 54)) none)⟩, ⟨none, (some 0), (.mv (.t 55))⟩]
def r_strings_genSplit_16 : List CO := [⟨none, (some 56), (.mv (.t 10))⟩, ⟨none, (some 57), (.bin .add .none (.t 56) (.k (.v (.int .i64 (1)))))⟩, ⟨none, (some 10), (.mv (.t 57))⟩]
def l_strings_genSplit_17 : C := (.seq (.seq (.reg r_strings_genSplit_11 [0, 1, 2, 3, 9, 10, 36]) (.cond (.t 36) .skip (.exit 0))) (.block 1 (.seq (.reg r_strings_genSplit_12 [0, 1, 2, 3, 9, 10, 11]) (.seq (.seq (.reg r_strings_genSplit_13 [0, 1, 2, 3, 9, 10, 11, 41]) (.cond (.t 41) (.exit 0) .skip)) (.seq (.reg r_strings_genSplit_14 [0, 1, 2, 3, 9, 10, 11]) (.seq (.reg r_strings_genSplit_15 [0, 1, 2, 3, 9, 10]) (.reg r_strings_genSplit_16 [0, 1, 2, 3, 9, 10])))))))
def r_strings_genSplit_18 : List CO := [⟨none, (some 58), (.mv (.t 9))⟩, ⟨none, (some 59), (.mv (.t 10))⟩, ⟨none, (some 60), (.mv (.t 0))⟩, ⟨none, (some 61), (.iaddr 1 (.t 58) (.t 59))⟩, ⟨none, none, (.st 1 (.t 61) (.t 60))⟩]
def r_strings_genSplit_19 : List CO := [⟨none, (some 62), (.mv (.t 9))⟩, ⟨none, (some 63), (.mv (.t 10))⟩, ⟨none, (some 64), (.bin .add .none (.t 63) (.k (.v (.int .i64 (1)))))⟩, ⟨none, (some 65), (.slc (some 1) (.t 62) none (some (.t 64)))⟩, ⟨none, (some 8), (.mv (.t 65))⟩]
/-- strings.genSplit -/
def c_strings_genSplit : C := (.seq (.reg r_strings_genSplit_0 [0, 1, 2, 3]) (.seq (.seq (.reg r_strings_genSplit_1 [0, 1, 2, 3, 13]) (.cond (.t 13) (.seq (.reg r_strings_genSplit_2 [8]) .ret) .skip)) (.seq (.seq (.reg r_strings_genSplit_3 [0, 1, 2, 3, 15]) (.cond (.t 15) (.seq (.reg r_strings_genSplit_4 [8]) .ret) .skip)) (.seq (.seq (.reg r_strings_genSplit_5 [0, 1, 2, 3, 20]) (.cond (.t 20) (.reg r_strings_genSplit_6 [0, 1, 2, 3]) .skip)) (.seq (.reg r_strings_genSplit_7 [0, 1, 2, 3]) (.seq (.reg r_strings_genSplit_8 [0, 1, 2, 3, 9]) (.seq (.reg r_strings_genSplit_9 [0, 1, 2, 3, 9]) (.seq (.reg r_strings_genSplit_10 [0, 1, 2, 3, 9, 10]) (.seq (.block 0 (.loop l_strings_genSplit_17)) (.seq (.reg r_strings_genSplit_18 [9, 10]) (.seq (.reg r_strings_genSplit_19 [8]) .ret)))))))))))
def k_strings_genSplit : Nat → List Nat
  | 0 => [0, 1, 2, 3]
  | 1 => [0, 1, 2, 3, 13]
  | 2 => [8]
  | 3 => [0, 1, 2, 3, 15]
  | 4 => [8]
  | 5 => [0, 1, 2, 3, 20]
  | 6 => [0, 1, 2, 3]
  | 7 => [0, 1, 2, 3]
  | 8 => [0, 1, 2, 3, 9]
  | 9 => [0, 1, 2, 3, 9]
  | 10 => [0, 1, 2, 3, 9, 10]
  | 11 => [0, 1, 2, 3, 9, 10, 36]
  | 12 => [0, 1, 2, 3, 9, 10, 11]
  | 13 => [0, 1, 2, 3, 9, 10, 11, 41]
  | 14 => [0, 1, 2, 3, 9, 10, 11]
  | 15 => [0, 1, 2, 3, 9, 10]
  | 16 => [0, 1, 2, 3, 9, 10]
  | 17 => [9, 10]
  | 18 => [8]
  | _ => []
theorem fn_strings_genSplit : FnC Tryz.prog n_strings_genSplit c_strings_genSplit [(.tmp 8)] 66 :=
  ⟨Tryz.f189, _, k_strings_genSplit, Tryz.func189, rfl, by kernel_rfl, by kernel_rfl, by kernel_rfl, rfl⟩
def r_strings_Split_0 : List CO := [⟨none, (some 4), (.mv (.k (.v (.slice none 0 0))))⟩]
def r_strings_Split_1 : List CO := [⟨none, (some 5), (.mv (.t 0))⟩, ⟨none, (some 6), (.mv (.t 1))⟩, ⟨none, (some 7), (.call n_strings_genSplit [(.t 5), (.t 6), (.k (.v (.int .i64 (0)))), (.k (.v (.int .i64 (-1))))])⟩, ⟨none, (some 4), (.mv (.t 7))⟩]
/-- strings.Split -/
def c_strings_Split : C := (.seq (.reg r_strings_Split_0 [0, 1]) (.seq (.reg r_strings_Split_1 [4]) .ret))
def k_strings_Split : Nat → List Nat
  | 0 => [0, 1]
  | 1 => [4]
  | _ => []
theorem fn_strings_Split : FnC Tryz.prog n_strings_Split c_strings_Split [(.tmp 4)] 8 :=
  ⟨Tryz.f145, _, k_strings_Split, Tryz.func145, rfl, by kernel_rfl, by kernel_rfl, by kernel_rfl, rfl⟩
end Go.Proofs.YtbeoijlggphklaaGreatDoor

/- strings.Split at one byte, in the program's library and in the reference. -/
set_option linter.unusedVariables false
set_option linter.unusedSimpArgs false
namespace Go.Proofs.YtbeoijlggphklaaGreatDoor
open Go.Abs

theorem parts_one {c x : UInt8} {s : List UInt8} : ∃ p ps, parts c s = p :: ps ∧ parts c (x :: s) = if x = c then [] :: p :: ps else (x :: p) :: ps := by
  cases h : parts c s with
  | nil => exact absurd h (parts_ne s)
  | cons p ps =>
    refine ⟨p, ps, rfl, ?_⟩
    rw [parts, h]
theorem parts_count (c : UInt8) : ∀ s : List UInt8, (parts c s).length = Lib.countByte s c + 1
  | [] => rfl
  | x :: s => by
    obtain ⟨p, ps, h1, h2⟩ := parts_one (c := c) (x := x) (s := s)
    have ih := parts_count c s
    rw [h1] at ih
    unfold Lib.countByte at ih ⊢
    rw [h2, List.count_cons]
    by_cases e : x = c
    · simp [e] at ih ⊢; omega
    · simp [e] at ih ⊢; omega
theorem count_le (c : UInt8) (s : List UInt8) : Lib.countByte s c ≤ s.length := List.count_le_length
theorem indexByte_cut {c : UInt8} : ∀ {s : List UInt8}, c ∈ s → Lib.indexByte s c = (cut0 c s).length
  | [], h => by simp at h
  | x :: s, h => by
    rw [Lib.indexByte]
    by_cases e : x = c
    · subst e; simp [cut0]
    · have e' : (x == c) = false := by simpa using e
      have hs : c ∈ s := by
        rcases List.mem_cons.1 h with h | h
        · exact absurd h.symm e
        · exact h
      have ih := indexByte_cut hs
      have hn : (Lib.indexByte s c == -1) = false := by rw [ih]; simp
      rw [e', hn, ih]
      simp [cut0, e]
theorem parts_mem {c : UInt8} {s : List UInt8} (h : c ∈ s) : parts c s = cut0 c s :: parts c (cut1 c s) := by
  obtain ⟨h1, h2⟩ := cut_split h
  have := parts_at (b := cut1 c s) h2
  rwa [← h1] at this
theorem cut_len {c : UInt8} {s : List UInt8} (h : c ∈ s) : (cut0 c s).length + 1 + (cut1 c s).length = s.length := by
  have h1 := (cut_split h).1
  have := congrArg List.length h1
  simp at this; omega

theorem cut_take {c : UInt8} {s : List UInt8} (h : c ∈ s) : s.take (cut0 c s).length = cut0 c s := by
  have h1 := (cut_split h).1
  generalize cut0 c s = a at h1
  generalize cut1 c s = b at h1
  subst h1
  simp
theorem cut_drop {c : UInt8} {s : List UInt8} (h : c ∈ s) : s.drop ((cut0 c s).length + 1) = cut1 c s := by
  have h1 := (cut_split h).1
  generalize cut0 c s = a at h1
  generalize cut1 c s = b at h1
  subst h1
  rw [show a ++ c :: b = (a ++ [c]) ++ b by simp, show a.length + 1 = (a ++ [c]).length by simp, List.drop_left]

theorem strings_Count (s : List UInt8) (c : UInt8) : PCall Tryz.prog n_strings_Count [S s, S [c]] (I (Lib.countByte s c)) :=
  PCall.same (vs := [.string (bs s), .string (bs [c])]) (y := .int .i64 (Lib.countByte s c)) (by kernel_rfl) (fun _ _ => CV_mkv rfl) (fun w _ _ => Tryz.strings_Count_one (bs s) c w)
theorem strings_Index (s : List UInt8) (c : UInt8) : PCall Tryz.prog n_strings_Index [S s, S [c]] (I (Lib.indexByte s c)) :=
  PCall.same (vs := [.string (bs s), .string (bs [c])]) (y := .int .i64 (Lib.indexByte s c)) (by kernel_rfl) (fun _ _ => CV_mkv rfl) (fun w _ _ => Tryz.strings_Index_one (bs s) c w)

theorem strings_genSplit (s : List UInt8) (c : UInt8) (hs : s.length ≤ 1048576) : PCall Tryz.prog n_strings_genSplit [S s, S [c], I 0, I (-1)] (.own 1 ((parts c s).map S)) := by
  refine PCall.of fn_strings_genSplit (by simp) ?_
  have hc := parts_count c s
  have hl := count_le c s
  simp [c_strings_genSplit, r_strings_genSplit_0, r_strings_genSplit_1]
  simp [r_strings_genSplit_3]
  simp [r_strings_genSplit_5]
  simp [r_strings_genSplit_6]
  refine callQ_v (strings_Count s c) ?_
  simp
  rw [wrap64 (by omega) (by omega)]
  simp [r_strings_genSplit_7]
  rw [wrap64 (by omega) (by omega)]
  simp [r_strings_genSplit_8]
  rw [if_neg (by omega)]
  have hn : ((Lib.countByte s c : Int) + 1).toNat = Lib.countByte s c + 1 := by omega
  rw [hn]
  refine ⟨⟨by omega, by simp [lenBound]; omega⟩, ?_⟩
  simp [r_strings_genSplit_9]
  rw [wrap64 (by omega) (by omega)]
  simp [r_strings_genSplit_10, r_strings_genSplit_18]
  generalize hN : Lib.countByte s c = N at hc hl hn ⊢
  refine loopK (fun x : List (List UInt8) × List UInt8 => ⟨[(0, S x.2), (1, S [c]), (2, I 0), (3, I N), (9, .sl 31 0 (N + 1)), (10, I x.1.length)], [(31, ⟨1, x.1.map S ++ List.replicate (N + 1 - x.1.length) (S [])⟩)], []⟩) (fun x => N + 1 - x.1.length)
    (fun x => x.1.length ≤ N ∧ x.2.length ≤ s.length ∧ parts c s = x.1 ++ parts c x.2) ([], s) (Wk.list rfl (by simp) (by simp)) (by simp) ?_
  rintro ⟨ps, r⟩ ⟨h1, h2, h3⟩ K hN hR hE
  dsimp only at h1 h2 h3 ⊢
  have hlen : (ps.map S).length = ps.length := List.length_map ..
  have h4 := congrArg List.length h3
  rw [hc, List.length_append] at h4
  simp [r_strings_genSplit_11, l_strings_genSplit_17]
  refine ⟨fun hlt => ?_, fun hge => ?_⟩
  · have hm : c ∈ r := (parts_len r).1 (by omega)
    have hcl := cut_len hm
    have hpm := parts_mem hm
    have hi := indexByte_cut hm
    simp [r_strings_genSplit_12]
    refine callQ_v (strings_Index r c) ?_
    rw [hi]
    simp [r_strings_genSplit_13]
    refine ⟨fun h => absurd h (by omega), ?_⟩
    simp [r_strings_genSplit_14]
    rw [wrap64 (by omega) (by omega)]
    have ht : r.take (cut0 c r).length = cut0 c r := cut_take hm
    have hd : r.drop ((cut0 c r).length + 1) = cut1 c r := cut_drop hm
    have hlt' : ps.length < N + 1 := by omega
    simp [hlt', half_get hlen hlt', half_set hlen hlt', ht]
    refine ⟨by omega, by omega, ?_⟩
    simp [r_strings_genSplit_15]
    rw [wrap64 (by omega) (by omega)]
    refine ⟨⟨by omega, by omega⟩, ?_⟩
    have e1 : ((cut0 c r).length + 1 : Int).toNat = (cut0 c r).length + 1 := by omega
    rw [e1, hd, List.take_of_length_le (by omega)]
    simp [r_strings_genSplit_16]
    rw [wrap64 (by omega) (by omega)]
    refine hN (ps ++ [cut0 c r], cut1 c r) _ (by simp; omega) ⟨by simp; omega, by simp; omega, by rw [h3, hpm]; simp⟩ (Wk.list rfl (by simp) ?_)
    simp
    have := half_set (v := S (cut0 c r)) (z := S []) hlen hlt'
    rw [List.set_append_right _ _ (by omega)] at this
    simpa using this
  · refine hE _ _ ?_
    have hnm : c ∉ r := fun hm => by have := (parts_len r).2 hm; omega
    have hlt' : ps.length < N + 1 := by omega
    obtain rfl : ps.length = N := by omega
    rw [parts_none hnm] at h3
    simp only [blockK_exit]
    simp [r_strings_genSplit_18, half_get hlen hlt', half_set hlen hlt']
    refine ⟨by omega, ?_⟩
    simp [r_strings_genSplit_19]
    rw [wrap64 (by omega) (by omega)]
    simp [h3]
    omega
theorem strings_Split (s : List UInt8) (c : UInt8) (hs : s.length ≤ 1048576) : PCall Tryz.prog n_strings_Split [S s, S [c]] (.own 1 ((parts c s).map S)) := by
  refine PCall.of fn_strings_Split (by simp) ?_
  simp [c_strings_Split, r_strings_Split_0, r_strings_Split_1]
  refine callQ_of (strings_genSplit s c hs) rfl (.inl (by simp)) (by simp) ?_
  simp
end Go.Proofs.YtbeoijlggphklaaGreatDoor

/- Mottoes as plain rows of bytes: the test, words, lines that are filled. No program in sight. -/
set_option linter.unusedVariables false
set_option linter.unusedSimpArgs false
namespace Go.Proofs.YtbeoijlggphklaaGreatDoor
open Go.Abs

/-- A letter A .. Z. -/
def isAZ (b : UInt8) : Bool := decide (65 ≤ (b.toNat : Int) ∧ (b.toNat : Int) ≤ 90)
def wordOk (w : List UInt8) : Bool := !w.isEmpty && w.all isAZ
/-- Read from the left; 'sp': at the start or behind a space. -/
def scan : Bool → List UInt8 → Bool
  | sp, [] => !sp
  | sp, x :: s => if x = 32 then !sp && scan true s else isAZ x && scan false s
def motto (s : List UInt8) : Bool := inR s.length 1 60 && scan true s

theorem parts_cons (c : UInt8) (x : UInt8) (s : List UInt8) : ∃ p ps, parts c s = p :: ps ∧ parts c (x :: s) = if x = c then [] :: p :: ps else (x :: p) :: ps := by
  cases h : parts c s with
  | nil => exact absurd h (parts_ne s)
  | cons p ps =>
    refine ⟨p, ps, rfl, ?_⟩
    rw [parts, h]
theorem scan_parts : ∀ (s p : List UInt8) (ps : List (List UInt8)), parts 32 s = p :: ps → (scan true s = (wordOk p && ps.all wordOk)) ∧ (scan false s = (p.all isAZ && ps.all wordOk))
  | [], p, ps, h => by
    rw [parts] at h
    simp only [List.cons.injEq] at h
    obtain ⟨rfl, rfl⟩ := h
    simp [scan, wordOk]
  | x :: s, p, ps, h => by
    obtain ⟨q, qs, h1, h2⟩ := parts_cons 32 x s
    rw [h2] at h
    have ih := scan_parts s q qs h1
    by_cases e : x = 32
    · rw [if_pos e] at h
      simp only [List.cons.injEq] at h
      obtain ⟨rfl, rfl⟩ := h
      simp [scan, e, wordOk, ih.1]
    · rw [if_neg e] at h
      simp only [List.cons.injEq] at h
      obtain ⟨rfl, rfl⟩ := h
      simp [scan, e, wordOk, ih.2, Bool.and_assoc]
theorem motto_parts (s : List UInt8) : motto s = (inR s.length 1 60 && (parts 32 s).all wordOk) := by
  unfold motto
  cases h : parts 32 s with
  | nil => exact absurd h (parts_ne s)
  | cons p ps => rw [(scan_parts s p ps h).1, List.all_cons]

/-- What the reference asks at place j. -/
def okAt (sp : Bool) (s : List UInt8) (j : Nat) : Prop := ∀ h : j < s.length, if s[j] = 32 then (if j = 0 then sp = false else s[j - 1]? ≠ some 32) else isAZ s[j] = true
theorem scan_iff : ∀ (s : List UInt8) (sp : Bool), scan sp s = true ↔ (∀ j, okAt sp s j) ∧ (if s = [] then sp = false else s.getLast? ≠ some 32)
  | [], sp => by
    simp [scan, okAt]
  | x :: s, sp => by
    have ih1 := scan_iff s true
    have ih2 := scan_iff s false
    have split0 : (∀ j, okAt sp (x :: s) j) ↔ (if x = 32 then sp = false else isAZ x = true) ∧ ∀ j, okAt (decide (x = 32)) s j := by
      constructor
      · intro h
        refine ⟨by simpa [okAt] using h 0, fun j hj => ?_⟩
        have := h (j + 1) (by simpa using hj)
        simp only [List.getElem_cons_succ, Nat.add_one_ne_zero, if_false, Nat.add_sub_cancel] at this
        by_cases e : s[j] = 32
        · rw [if_pos e] at this ⊢
          by_cases e0 : j = 0
          · subst e0
            rw [if_pos rfl]
            simpa using this
          · rw [if_neg e0]
            obtain ⟨k, rfl⟩ : ∃ k, j = k + 1 := ⟨j - 1, by omega⟩
            simpa using this
        · rw [if_neg e] at this ⊢; exact this
      · rintro ⟨h0, h⟩ j hj
        cases j with
        | zero => simpa using h0
        | succ j =>
          have := h j (by simpa using hj)
          simp only [List.getElem_cons_succ, Nat.add_one_ne_zero, if_false, Nat.add_sub_cancel]
          by_cases e : s[j]'(by simpa using hj) = 32
          · rw [if_pos e] at this ⊢
            by_cases e0 : j = 0
            · subst e0
              rw [if_pos rfl] at this
              simpa using this
            · rw [if_neg e0] at this
              obtain ⟨k, rfl⟩ : ∃ k, j = k + 1 := ⟨j - 1, by omega⟩
              simpa using this
          · rw [if_neg e] at this ⊢; exact this
    have last0 : ((x :: s).getLast? ≠ some 32) ↔ (if s = [] then x ≠ 32 else s.getLast? ≠ some 32) := by
      cases s with
      | nil => simp
      | cons y s => simp
    have hne : ¬ (x :: s = []) := by simp
    rw [split0, if_neg hne, last0, scan]
    by_cases e : x = 32
    · simp only [e, if_true, Bool.and_eq_true, Bool.not_eq_true', decide_true]
      by_cases hs : s = []
      · subst hs; simp [scan]
      · rw [if_neg hs] at ih1
        rw [if_neg hs, ih1, and_assoc]
    · simp only [e, if_false, Bool.and_eq_true, decide_false]
      by_cases hs : s = []
      · subst hs; simp [scan, okAt]; intro _; exact e
      · rw [if_neg hs] at ih2
        rw [if_neg hs, ih2, and_assoc]

/-! ### Lines that are filled -/
/-- cur stands in the line; the other words follow. -/
def fillGo (w : Int) : List UInt8 → List (List UInt8) → List (List UInt8)
  | cur, [] => [cur]
  | cur, x :: xs => if (cur.length : Int) + 1 + x.length ≤ w then fillGo w (cur ++ 32 :: x) xs else cur :: fillGo w x xs
def fill (w : Int) : List (List UInt8) → List (List UInt8)
  | [] => []
  | x :: xs => fillGo w x xs
def joinW : List (List UInt8) → List UInt8
  | [] => []
  | [x] => x
  | x :: y :: xs => x ++ 32 :: joinW (y :: xs)
theorem joinW_snoc : ∀ (xs : List (List UInt8)) (y : List UInt8), xs ≠ [] → joinW (xs ++ [y]) = joinW xs ++ 32 :: y
  | [x], y, _ => rfl
  | x :: z :: xs, y, _ => by
    have ih := joinW_snoc (z :: xs) y (by simp)
    show x ++ 32 :: joinW (z :: (xs ++ [y])) = _
    rw [show z :: (xs ++ [y]) = (z :: xs) ++ [y] from rfl, ih]
    simp [joinW]
end Go.Proofs.YtbeoijlggphklaaGreatDoor

/- Texts that are divided into lines: in the program. -/
set_option linter.unusedVariables false
set_option linter.unusedSimpArgs false
namespace Go.Proofs.YtbeoijlggphklaaGreatDoor
open Go.Abs

theorem parts_less {c : UInt8} : ∀ {s w : List UInt8}, w ∈ parts c s → w.length ≤ s.length
  | [], w, h => by
    rw [parts] at h
    simp at h; subst h; simp
  | x :: s, w, h => by
    obtain ⟨p, ps, h1, h2⟩ := parts_cons c x s
    rw [h2] at h
    have ih : ∀ v ∈ p :: ps, v.length ≤ s.length := fun v hv => parts_less (by rw [h1]; exact hv)
    have hp := ih p (by simp)
    split at h
    · rcases List.mem_cons.1 h with rfl | h
      · simp
      · have := ih w h; simp; omega
    · rcases List.mem_cons.1 h with rfl | h
      · simp; omega
      · have := ih w (by simp [h]); simp; omega
theorem fillGo_long (w : Int) (m : Nat) (hw : w ≤ m) : ∀ (r : List (List UInt8)) (cur : List UInt8), cur.length ≤ m → (∀ x ∈ r, x.length ≤ m) → ∀ x ∈ fillGo w cur r, x.length ≤ m
  | [], cur, hc, _ => by simpa [fillGo] using hc
  | y :: r, cur, hc, hr => by
    rw [fillGo]
    split
    · exact fillGo_long w m hw r _ (by simp; omega) fun x hx => hr x (by simp [hx])
    · intro x hx
      rcases List.mem_cons.1 hx with rfl | hx
      · exact hc
      · exact fillGo_long w m hw r _ (hr y (by simp)) (fun x hx => hr x (by simp [hx])) x hx
theorem fillGo_count (w : Int) : ∀ (r : List (List UInt8)) (cur : List UInt8), (fillGo w cur r).length ≤ r.length + 1
  | [], cur => by simp [fillGo]
  | x :: r, cur => by
    rw [fillGo]
    split
    · have := fillGo_count w r (cur ++ 32 :: x); simp; omega
    · have := fillGo_count w r x; simp; omega
/-- How far the filling has come. -/
def Wrapped (w : Int) (L out : List (List UInt8)) (i : Nat) : Prop :=
  (i = 0 ∧ out = []) ∨ ∃ done cur, out = done ++ [cur] ∧ cur.length ≤ 1000 ∧ fill w L = done ++ fillGo w cur (L.drop i)
theorem Wrapped.done {w : Int} {L out : List (List UInt8)} (h : Wrapped w L out L.length) : fill w L = out := by
  rcases h with ⟨h0, rfl⟩ | ⟨done, cur, rfl, _, h⟩
  · have : L = [] := List.length_eq_zero_iff.1 h0
    subst this; rfl
  · rw [h, List.drop_length, fillGo]

theorem i_wrapped (s : List UInt8) (w : Int) (hs : s.length ≤ 1000) (hw : w ≤ 1000) : PCall Tryz.prog n_i_wrapped [S s, I w] (.own 1 ((fill w (parts 32 s)).map S)) := by
  refine PCall.of fn_i_wrapped (by simp) ?_
  have hle : (parts 32 s).length ≤ 1001 := by have := parts_count 32 s; have := count_le 32 s; omega
  have hsh : ∀ x ∈ parts 32 s, x.length ≤ 1000 := fun x hx => by have := parts_less hx; omega
  have hsp := strings_Split s 32 (by omega)
  generalize parts 32 s = L at hle hsp hsh ⊢
  simp [c_i_wrapped, r_i_wrapped_0, r_i_wrapped_1]
  simp [r_i_wrapped_2]
  refine callQ_of hsp rfl (.inl (by simp)) (by simp) ?_
  simp [r_i_wrapped_11]
  refine loopK (fun p : List (List UInt8) × Nat => ⟨[(1, I w), (5, .sl 9 0 p.1.length), (11, .sl 11 0 L.length), (12, I L.length), (13, I p.2)], [(9, ⟨1, p.1.map S⟩), (11, ⟨1, L.map S⟩)], []⟩) (fun p => L.length - p.2)
    (fun p => p.2 ≤ L.length ∧ p.1.length ≤ p.2 ∧ Wrapped w L p.1 p.2) ([], 0) (Wk.list rfl (by simp) (by simp)) (by simp [Wrapped]) ?_
  rintro ⟨out, i⟩ ⟨hi, ho, hf⟩ K hN hR hE
  dsimp only at hi ho hf ⊢
  simp [r_i_wrapped_3, l_i_wrapped_10]
  refine ⟨fun hlt => ?_, fun hge => ?_⟩
  · have hd : L.drop i = L[i] :: L.drop (i + 1) := List.drop_eq_getElem_cons hlt
    have hx := hsh L[i] (List.getElem_mem _)
    simp [r_i_wrapped_4, hlt]
    simp [r_i_wrapped_5]
    have hadd : ∀ done : List (List UInt8), fill w L = done ++ fillGo w L[i] (L.drop (i + 1)) → done = out → Wrapped w L (out ++ [L[i]]) (i + 1) := fun done h e => .inr ⟨out, L[i], rfl, hx, by rw [h, e]⟩
    rcases hf with ⟨rfl, rfl⟩ | ⟨done, cur, rfl, hc, hf⟩
    · have hF : Wrapped w L ([] ++ [L[0]]) (0 + 1) := by
        refine hadd [] ?_ rfl
        cases L with
        | nil => simp at hlt
        | cons x xs => rfl
      simp [r_i_wrapped_6]
      simp [r_i_wrapped_8]
      refine ⟨by unfold lenBound; omega, ?_⟩
      simp [r_i_wrapped_9]
      rw [wrap64 (n := 1) (by omega) (by omega)]
      refine hN ([] ++ [L[0]], 0 + 1) _ (by dsimp only; omega) ⟨by dsimp only; omega, by simp, hF⟩ (Wk.trans (Wk.ren 47 9 (by decide) (by simp)) (Wk.list rfl ?_ ?_))
      · simp [AS.ren, ren, reN]
      · simp [AS.ren, ren, reN, renB]
    · have hml : (done.map S).length = done.length := List.length_map ..
      have hol : done.length + 1 ≤ i := by simpa using ho
      simp [r_i_wrapped_6]
      rw [wrap64 (by omega) (by omega)]
      have e1 : (done.length : Int).toNat = done.length := by omega
      rw [e1, app_get hml]
      refine ⟨⟨by omega, by omega⟩, ?_⟩
      simp
      rw [wrap64 (n := (cur.length : Int) + 1) (by omega) (by omega), wrap64 (by omega) (by omega)]
      refine ⟨fun hfit => ?_, fun hfit => ?_⟩
      · simp [r_i_wrapped_7]
        rw [wrap64 (by omega) (by omega), e1, app_get hml]
        refine ⟨⟨by omega, by omega⟩, ?_⟩
        simp
        refine ⟨by omega, by omega, by omega, ?_⟩
        simp [r_i_wrapped_9]
        rw [wrap64 (by omega) (by omega)]
        have hF : Wrapped w L (done ++ [cur ++ 32 :: L[i]]) (i + 1) := .inr ⟨done, cur ++ 32 :: L[i], rfl, by simp; omega, by rw [hf, hd, fillGo, if_pos hfit]⟩
        refine hN (done ++ [cur ++ 32 :: L[i]], i + 1) _ (by dsimp only; omega) ⟨by dsimp only; omega, by simp; omega, hF⟩ (Wk.list rfl (by simp) (by simp))
      · have hF : Wrapped w L (done ++ [cur] ++ [L[i]]) (i + 1) := .inr ⟨done ++ [cur], L[i], rfl, hx, by rw [hf, hd, fillGo, if_neg (by omega)]; simp⟩
        have ht : (done.map S ++ [S cur]).take (done.length + 1) = done.map S ++ [S cur] := List.take_of_length_le (by simp)
        simp [r_i_wrapped_8]
        rw [ht]
        refine ⟨by unfold lenBound; omega, ?_⟩
        simp [r_i_wrapped_9]
        rw [wrap64 (by omega) (by omega)]
        refine hN (done ++ [cur] ++ [L[i]], i + 1) _ (by dsimp only; omega) ⟨by dsimp only; omega, by simp; omega, hF⟩ (Wk.trans (Wk.ren 47 9 (by decide) (by simp)) (Wk.list rfl ?_ ?_))
        · simp [AS.ren, ren, reN]
        · simp [AS.ren, ren, reN, renB]
  · obtain rfl : i = L.length := by omega
    refine hE _ _ ?_
    simp only [blockK_exit]
    simp [r_i_wrapped_11, hf.done]

end Go.Proofs.YtbeoijlggphklaaGreatDoor

/- The words of the text of arms are not empty; entries of a roll. No program in sight. -/
set_option linter.unusedVariables false
set_option linter.unusedSimpArgs false
namespace Go.Proofs.YtbeoijlggphklaaGreatDoor
open Go.Abs

/-- Words are not empty, read from the left; 'sp': at the start or behind a space. -/
def neatS : Bool → List UInt8 → Bool
  | sp, [] => !sp
  | sp, x :: s => if x = 32 then !sp && neatS true s else neatS false s
theorem neat_parts : ∀ (s p : List UInt8) (ps : List (List UInt8)), parts 32 s = p :: ps → (neatS true s = ((!p.isEmpty) && ps.all fun x => !x.isEmpty)) ∧ (neatS false s = ps.all fun x => !x.isEmpty)
  | [], p, ps, h => by
    rw [parts] at h
    simp only [List.cons.injEq] at h
    obtain ⟨rfl, rfl⟩ := h
    simp [neatS]
  | x :: s, p, ps, h => by
    obtain ⟨q, qs, h1, h2⟩ := parts_cons 32 x s
    rw [h2] at h
    have ih := neat_parts s q qs h1
    by_cases e : x = 32
    · rw [if_pos e] at h
      simp only [List.cons.injEq] at h
      obtain ⟨rfl, rfl⟩ := h
      simp [neatS, e, ih.1]
    · rw [if_neg e] at h
      simp only [List.cons.injEq] at h
      obtain ⟨rfl, rfl⟩ := h
      simp [neatS, e, ih.2]
theorem neat_ne {s : List UInt8} (h : neatS true s = true) : ∀ x ∈ parts 32 s, x ≠ [] := by
  obtain ⟨p, ps, hp⟩ : ∃ p ps, parts 32 s = p :: ps := by
    cases hp : parts 32 s with
    | nil => exact absurd hp (parts_ne s)
    | cons p ps => exact ⟨p, ps, rfl⟩
  have h1 := (neat_parts s p ps hp).1
  rw [h1, Bool.and_eq_true, List.all_eq_true] at h
  rw [hp]
  intro x hx
  rcases List.mem_cons.1 hx with rfl | hx
  · rintro rfl; simp at h
  · rintro rfl
    have := h.2 [] hx
    simp at this
theorem neat_sp : ∀ (sp : Bool) (a b : List UInt8), neatS sp (a ++ 32 :: b) = (neatS sp a && neatS true b)
  | sp, [], b => by simp [neatS]
  | sp, x :: a, b => by
    rw [List.cons_append, neatS, neatS]
    split
    · rw [neat_sp true a b, Bool.and_assoc]
    · rw [neat_sp false a b]
theorem neat_snoc {x : UInt8} (hx : x ≠ 32) : ∀ (sp : Bool) (a : List UInt8), neatS sp a = true → neatS sp (a ++ [x]) = true
  | sp, [], h => by simp [neatS, hx]
  | sp, y :: a, h => by
    rw [neatS] at h
    rw [List.cons_append, neatS]
    split
    · rename_i e
      rw [if_pos e, Bool.and_eq_true] at h
      rw [Bool.and_eq_true]
      exact ⟨h.1, neat_snoc hx true a h.2⟩
    · rename_i e
      rw [if_neg e] at h
      exact neat_snoc hx false a h
theorem neat_two {a b : List UInt8} (h1 : neatS true a = true) (h2 : neatS true b = true) : neatS true (a ++ 32 :: b) = true := by rw [neat_sp, h1, h2]; rfl
theorem neat_comma {a b : List UInt8} (h1 : neatS true a = true) (h2 : neatS true b = true) : neatS true (a ++ [44, 32] ++ b) = true := by
  have := neat_two (neat_snoc (x := 44) (by decide) true a h1) h2
  simpa using this
theorem neat_get {l : List (List UInt8)} {i : Nat} (hl : ∀ w ∈ l, neatS true w = true) (h : i < l.length) : neatS true (l.getD i []) = true := by
  rw [List.getD_eq_getElem?_getD, List.getElem?_eq_getElem h]
  exact hl _ (List.getElem_mem h)
theorem neat_tinc {x : Int} (h : inR x 1 9 = true) : neatS true (tincW x) = true := by
  have h := inR_iff.1 h
  exact neat_get (by decide) (by show _ < 9; omega)
theorem neat_with {t : List UInt8} {x : Int} (ht : neatS true t = true) (h : 0 ≤ x ∧ x ≤ 4) : neatS true (withL t x) = true := by
  unfold withL
  split
  · exact ht
  · exact neat_two ht (neat_get (by decide) (by show _ < 4; omega))
theorem neat_field {f : Field} (h : fieldOk f = true) : neatS true (fieldT f) = true := by
  simp only [fieldOk, Bool.and_eq_true, inR_iff] at h
  obtain ⟨⟨⟨h1, h2⟩, h3⟩, h4⟩ := h
  unfold fieldT
  split
  · exact neat_tinc (inR_iff.2 h3)
  · rename_i h0
    rw [if_neg h0] at h4
    simp only [Bool.and_eq_true, inR_iff] at h4
    have hd : neatS true (divW f.division) = true := neat_get (by decide) (by show _ < 7; omega)
    have ha := neat_two (neat_tinc (inR_iff.2 h3)) (neat_two (a := [97, 110, 100]) (by decide) (neat_tinc (inR_iff.2 h4.1)))
    have := neat_two (neat_with hd h2) ha
    simpa using this
theorem neat_group {g : Group} (h : groupOk g = true) : neatS true (groupT g) = true := by
  obtain ⟨h1, h2, h3, h4⟩ := groupOk_iff h
  have hc : neatS true (countW g.count g.kind) = true := by
    unfold countW
    split
    · decide
    · exact neat_get (by decide) (by show _ < 6; omega)
  have hk : neatS true (kindW g.kind g.count) = true := by
    unfold kindW
    have := neat_get (l := kindL) (i := (g.kind - 1).toNat) (by decide) (by show _ < 8; omega)
    split
    · exact neat_snoc (by decide) _ _ this
    · simpa using this
  unfold groupT
  split
  · rename_i ha
    have ha' : neatS true ((attitudes g.kind).getD (g.attitude - 1).toNat []) = true := by
      refine neat_get ?_ (att_get h ha).1
      unfold attitudes
      split
      · decide
      · split
        · decide
        · split
          · decide
          · simp
    have := neat_two hc (neat_two hk (neat_two ha' (neat_tinc h3)))
    simpa using this
  · have := neat_two hc (neat_two hk (neat_tinc h3))
    simpa using this
theorem neat_arms {a : Arms} (h : arms a = true) : neatS true (armsT a) = true := by
  have h0 := neat_field (arms_field h)
  obtain ⟨ho, hg, hr⟩ := arms_parts h
  have hon : g0 a.on = false → neatS true (groupT a.on) = true := fun e => neat_group (hg e)
  have har : g0 a.around = false → neatS true (groupT a.around) = true := fun e => neat_group (hr e)
  unfold armsT
  obtain ⟨t1, ht1⟩ : ∃ t1, fieldT a.field ++ (if a.ordinary = 0 then [] else [44, 32] ++ ordT a.ordinary a.line ++ 32 :: tincW a.tincture) = t1 := ⟨_, rfl⟩
  have n1 : neatS true t1 = true := by
    rw [← ht1]
    split
    · simpa using h0
    · rename_i e
      obtain ⟨g2, g3⟩ := ho.2.2.2 e
      have g1 := ho.1
      have g4 := ho.2.1
      have hord : neatS true (ordT a.ordinary a.line) = true := by
        unfold ordT
        refine neat_with ?_ g2
        have := neat_two (a := [97]) (by decide) (neat_get (l := ordL) (i := (a.ordinary - 1).toNat) (by decide) (by show _ < 7; omega))
        simpa [ordW] using this
      have := neat_comma h0 (neat_two hord (neat_tinc g3))
      simpa using this
  rw [ht1]
  obtain ⟨t2, ht2⟩ : ∃ t2, t1 ++ (if g0 a.on then [] else [32, 99, 104, 97, 114, 103, 101, 100, 32, 119, 105, 116, 104, 32] ++ groupT a.on) = t2 := ⟨_, rfl⟩
  have n2 : neatS true t2 = true := by
    rw [← ht2]
    split
    · simpa using n1
    · rename_i e
      have := neat_two n1 (neat_two (a := [99, 104, 97, 114, 103, 101, 100]) (by decide) (neat_two (a := [119, 105, 116, 104]) (by decide) (hon (by simpa using e))))
      simpa using this
  rw [ht2]
  split
  · simpa using n2
  · rename_i e
    have hr := har (by simpa using e)
    unfold joinT
    split
    · have := neat_comma n2 hr
      simpa using this
    · split
      · have := neat_two n2 (neat_two (a := [97, 98, 111, 118, 101]) (by decide) hr)
        simpa using this
      · have := neat_two n2 (neat_two (a := [98, 101, 116, 119, 101, 101, 110]) (by decide) hr)
        simpa using this
end Go.Proofs.YtbeoijlggphklaaGreatDoor

/- Rolls: order, entries, pages of the grants of a register. No program in sight. -/
set_option linter.unusedVariables false
set_option linter.unusedSimpArgs false
namespace Go.Proofs.YtbeoijlggphklaaGreatDoor
open Go.Abs

structure Roll where
  by_ : Int
  width : Int
  height : Int
abbrev eRoll (x : Roll) : V := .agg [I x.by_, I x.width, I x.height]
def rollOk (x : Roll) : Bool := inR x.by_ 1 3 && inR x.width 20 60 && inR x.height 4 20

/-! ### Orders -/
def ordLt (y : Int) (a b : Grant) : Bool := if y = 2 then decide (a.name < b.name) else if y = 3 then decide (armsT a.arms < armsT b.arms) else false
def beforeS (y : Int) (a b : Grant) : Bool := if y = 2 then decide (a.name < b.name) || (decide (a.name = b.name) && decide (a.number < b.number)) else if y = 3 then decide (armsT a.arms < armsT b.arms) else decide (a.number < b.number)
def rollOrd (y : Int) (l : List Grant) : List Grant := sortR (ordLt y) l
def rollIx (y : Int) (l : List Grant) : List Nat := sortR (fun i j => beforeS y (l.getD i g00) (l.getD j g00)) (List.range l.length)
theorem sortR_range {lt lt' : Nat → Nat → Bool} : ∀ n, (∀ i j, j < i → i < n → lt i j = lt' i j) → sortR lt (List.range n) = sortR lt' (List.range n)
  | 0, _ => rfl
  | n + 1, h => by
    rw [List.range_succ, sortR_snoc, sortR_snoc, sortR_range n fun i j h1 h2 => h i j h1 (by omega)]
    refine insR_congr fun y hy => ?_
    have := List.mem_range.1 (sortR_mem.1 hy)
    exact h n y this (by omega)
theorem range_getD {l : List Grant} : (List.range l.length).map (fun i => l.getD i g00) = l := by
  refine List.ext_getElem (by simp) fun i h1 h2 => ?_
  simp at h1
  simp [h1]
theorem register_step {l : List Grant} (h : register l = true) {i : Nat} (hi : i < l.length) : stepOk l i = true := by
  simp only [register, Bool.and_eq_true, decide_eq_true_iff, List.all_eq_true] at h
  exact h.2 i (List.mem_range.2 hi)
theorem register_asc {l : List Grant} (h : register l = true) : ∀ (i j : Nat), j < i → i < l.length → (l.getD j g00).number < (l.getD i g00).number
  | 0, j, h1, _ => by omega
  | i + 1, j, h1, h2 => by
    have hs := register_step h h2
    simp only [stepOk, Bool.and_eq_true, Bool.or_eq_true, decide_eq_true_iff, pairOk, Nat.add_sub_cancel] at hs
    have hs := hs.2.1.resolve_left (by omega)
    by_cases e : j = i
    · subst e; exact hs.1
    · have := register_asc h i j (by omega) (by omega)
      omega
theorem register_grant {l : List Grant} (h : register l = true) : ∀ g ∈ l, grantOk g = true := by
  intro g hg
  obtain ⟨i, hi, rfl⟩ := List.getElem_of_mem hg
  have hs := register_step h hi
  simp only [stepOk, Bool.and_eq_true] at hs
  have := hs.1
  rwa [List.getD_eq_getElem?_getD, List.getElem?_eq_getElem hi] at this
theorem rollIx_map {y : Int} {l : List Grant} (h : register l = true) : (rollIx y l).map (fun i => l.getD i g00) = rollOrd y l := by
  have e : rollIx y l = sortR (fun i j => ordLt y (l.getD i g00) (l.getD j g00)) (List.range l.length) := by
    refine sortR_range _ fun i j h1 h2 => ?_
    have ha := register_asc h i j h1 h2
    unfold beforeS ordLt
    have e1 : decide ((l.getD i g00).number < (l.getD j g00).number) = false := by simp only [decide_eq_false_iff_not]; omega
    rw [e1]
    simp
  have h2 := sortR_map (fun i => l.getD i g00) (ordLt y) (List.range l.length)
  rw [range_getD] at h2
  rw [e, rollOrd, h2]
theorem rollIx_lt {y : Int} {l : List Grant} : ∀ i ∈ rollIx y l, i < l.length := fun i hi => List.mem_range.1 (sortR_mem.1 hi)
theorem rollIx_len (y : Int) (l : List Grant) : (rollIx y l).length = l.length := by rw [rollIx, sortR_len, List.length_range]
theorem rollOrd_len (y : Int) (l : List Grant) : (rollOrd y l).length = l.length := sortR_len _ _
theorem rollOrd_mem {y : Int} {l : List Grant} {g : Grant} : g ∈ rollOrd y l ↔ g ∈ l := sortR_mem
def orderOk (l : List Grant) (y : Int) : Bool := register l && inR y 1 3
def orderN (l : List Grant) (y : Int) : List Int := if orderOk l y then (rollOrd y l).map Grant.number else []
theorem orderN_len (l : List Grant) (y : Int) : (orderN l y).length ≤ 12 := by
  unfold orderN
  split
  · rename_i h
    simp only [orderOk, Bool.and_eq_true] at h
    have := register_len h.1
    rw [List.length_map, rollOrd_len]; exact this
  · simp

/-! ### Entries -/
def headT (g : Grant) : List UInt8 := digits g.number.toNat ++ [46, 32] ++ g.name ++ [44, 32] ++ digits g.year.toNat
def entryL (w : Int) (g : Grant) : List (List UInt8) := headT g :: (fill (w - 2) (parts 32 (armsT g.arms))).map fun x => [32, 32] ++ x
def entryOk (g : Grant) (w : Int) : Bool := register [g] && inR w 20 60
def entryR (g : Grant) (w : Int) : List (List UInt8) := if entryOk g w then entryL w g else []
theorem armsT_words (a : Arms) : (parts 32 (armsT a)).length ≤ 301 := by
  have h1 := parts_count 32 (armsT a)
  have h2 := count_le 32 (armsT a)
  have h3 := armsT_len a
  omega
theorem fill_len (w : Int) (L : List (List UInt8)) : (fill w L).length ≤ L.length := by
  cases L with
  | nil => simp [fill]
  | cons x L => rw [fill]; have := fillGo_count w L x; simpa using this
theorem entryL_len (w : Int) (g : Grant) : (entryL w g).length ≤ 302 := by
  have h1 := fill_len (w - 2) (parts 32 (armsT g.arms))
  have h2 := armsT_words g.arms
  simp only [entryL, List.length_cons, List.length_map]; omega
theorem entryL_pos (w : Int) (g : Grant) : 1 ≤ (entryL w g).length := by simp [entryL]
theorem nameOk_len {s : List UInt8} (h : nameOk s = true) : 1 ≤ s.length ∧ s.length ≤ 12 := by
  simp only [nameOk, Bool.and_eq_true, inR_iff] at h
  omega
theorem grantOk_iff {g : Grant} (h : grantOk g = true) : (1 ≤ g.number ∧ g.number ≤ 999) ∧ nameOk g.name = true ∧ (1000 ≤ g.year ∧ g.year ≤ 2999) ∧ arms g.arms = true := by
  simp only [grantOk, Bool.and_eq_true, inR_iff] at h
  exact ⟨h.1, h.2.1, h.2.2.1, h.2.2.2⟩
theorem headT_len {g : Grant} (h : grantOk g = true) : (headT g).length ≤ 40 := by
  obtain ⟨h1, h2, h3, _⟩ := grantOk_iff h
  have := nameOk_len h2
  have d1 := digits_len 3 g.number.toNat (by omega)
  have d2 := digits_len 3 g.year.toNat (by omega)
  simp [headT]; omega
theorem fill_short {w : Int} {a : Arms} (hw : w ≤ 1000) : ∀ x ∈ fill w (parts 32 (armsT a)), x.length ≤ 1000 := by
  intro x hx
  have hp : ∀ y ∈ parts 32 (armsT a), y.length ≤ 1000 := fun y hy => by have := parts_less hy; have := armsT_len a; omega
  cases hL : parts 32 (armsT a) with
  | nil => rw [hL] at hx; simp [fill] at hx
  | cons y L =>
    rw [hL] at hx hp
    exact fillGo_long w 1000 hw L y (hp y (by simp)) (fun z hz => hp z (by simp [hz])) x hx
theorem entryL_short {w : Int} {g : Grant} (hw : w ≤ 1000) (h : grantOk g = true) : ∀ x ∈ entryL w g, x.length ≤ 1002 := by
  intro x hx
  rcases List.mem_cons.1 hx with rfl | hx
  · have := headT_len h; omega
  · obtain ⟨y, hy, rfl⟩ := List.mem_map.1 hx
    have := fill_short (a := g.arms) (w := w - 2) (by omega) y hy
    simp; omega

/-! ### Pages -/
def pagesG (x : Roll) (l : List Grant) : Option (List (List Grant)) := packs (fun g => (entryL x.width g).length) x.height.toNat (rollOrd x.by_ l)
def pagesIx (x : Roll) (l : List Grant) : Option (List (List Nat)) := packs (fun i => (entryL x.width (l.getD i g00)).length) x.height.toNat (rollIx x.by_ l)
theorem pagesIx_map {x : Roll} {l : List Grant} (h : register l = true) : pagesG x l = (pagesIx x l).map (·.map (·.map fun i => l.getD i g00)) := by
  rw [pagesG, ← rollIx_map h, packs_map]; rfl
def askedOk (l : List Grant) (x : Roll) : Bool := register l && rollOk x
def asked (l : List Grant) (x : Roll) : Option (List (List Grant)) := if askedOk l x then pagesG x l else none
def askedIx (l : List Grant) (x : Roll) : Option (List (List Nat)) := if askedOk l x then pagesIx x l else none
theorem asked_map (l : List Grant) (x : Roll) : asked l x = (askedIx l x).map (·.map (·.map fun i => l.getD i g00)) := by
  unfold asked askedIx
  split
  · rename_i h
    simp only [askedOk, Bool.and_eq_true] at h
    exact pagesIx_map h.1
  · rfl
def linesP (x : Roll) (p : List Grant) : List (List UInt8) := p.flatMap (entryL x.width)
def pagesL (l : List Grant) (x : Roll) : List (List (List UInt8)) := ((asked l x).getD []).map (linesP x)
theorem linesP_len (x : Roll) (p : List Grant) : (linesP x p).length = sizeB (fun g => (entryL x.width g).length) p := by
  simp [linesP, sizeB, List.length_flatMap]
end Go.Proofs.YtbeoijlggphklaaGreatDoor

/- Rolls: the page of a grant, the text, the number of lines. No program in sight. -/
set_option linter.unusedVariables false
set_option linter.unusedSimpArgs false
namespace Go.Proofs.YtbeoijlggphklaaGreatDoor
open Go.Abs

/-! ### Bounds -/
theorem packGo_count {α : Type} {sz : α → Nat} {h : Nat} : ∀ (l : List α) (done : List (List α)) (cur : List α) (ps : List (List α)), packGo sz h done cur l = some ps → ps.length ≤ done.length + (if cur.isEmpty then 0 else 1) + l.length
  | [], done, cur, ps, e => by
    rw [packGo] at e
    simp only [Option.some.injEq] at e
    subst e
    split <;> simp
  | x :: xs, done, cur, ps, e => by
    rw [packGo] at e
    split at e
    · cases e
    split at e
    · rename_i hc
      have := packGo_count xs _ _ ps e
      simp at this ⊢; omega
    rename_i hc
    split at e
    · have := packGo_count xs _ _ ps e
      simp [hc] at this ⊢; omega
    · have := packGo_count xs _ _ ps e
      simp [hc] at this ⊢; omega
theorem packs_count {α : Type} {sz : α → Nat} {h : Nat} {l : List α} {ps : List (List α)} (e : packs sz h l = some ps) : ps.length ≤ l.length := by
  have := packGo_count _ _ _ _ e
  simpa using this
theorem asked_iff {l : List Grant} {x : Roll} {ps : List (List Grant)} (h : asked l x = some ps) : register l = true ∧ rollOk x = true ∧ pagesG x l = some ps := by
  unfold asked at h
  split at h
  · rename_i ha
    simp only [askedOk, Bool.and_eq_true] at ha
    exact ⟨ha.1, ha.2, h⟩
  · cases h
theorem rollOk_iff {x : Roll} (h : rollOk x = true) : (1 ≤ x.by_ ∧ x.by_ ≤ 3) ∧ (20 ≤ x.width ∧ x.width ≤ 60) ∧ 4 ≤ x.height ∧ x.height ≤ 20 := by
  simp only [rollOk, Bool.and_eq_true, inR_iff] at h
  exact ⟨h.1.1, h.1.2, h.2⟩
theorem asked_flat {l : List Grant} {x : Roll} {ps : List (List Grant)} (h : asked l x = some ps) : ps.flatten = rollOrd x.by_ l := packs_flat (asked_iff h).2.2
theorem asked_count {l : List Grant} {x : Roll} {ps : List (List Grant)} (h : asked l x = some ps) : ps.length ≤ 12 := by
  obtain ⟨h1, _, h3⟩ := asked_iff h
  have := packs_count h3
  have := register_len h1
  rw [rollOrd_len] at *; omega
theorem asked_page {l : List Grant} {x : Roll} {ps : List (List Grant)} (h : asked l x = some ps) : ∀ p ∈ ps, p ≠ [] ∧ (linesP x p).length ≤ 20 ∧ (linesP x p).length ≤ x.height.toNat ∧ ∀ g ∈ p, grantOk g = true := by
  intro p hp
  obtain ⟨h1, h2, h3⟩ := asked_iff h
  have hk := rollOk_iff h2
  obtain ⟨h4, h5⟩ := packs_ok h3 p hp
  rw [linesP_len]
  refine ⟨h4, by omega, h5, fun g hg => register_grant h1 g ?_⟩
  rw [← rollOrd_mem (y := x.by_), ← asked_flat h]
  exact List.mem_flatten_of_mem hp hg
theorem asked_line {l : List Grant} {x : Roll} {ps : List (List Grant)} (h : asked l x = some ps) : ∀ p ∈ ps, ∀ s ∈ linesP x p, s.length ≤ 1002 := by
  intro p hp s hs
  obtain ⟨_, h2, _⟩ := asked_iff h
  have hk := rollOk_iff h2
  obtain ⟨g, hg, hs⟩ := List.mem_flatMap.1 hs
  exact entryL_short (by omega) ((asked_page h p hp).2.2.2 g hg) s hs

/-! ### The page of a grant -/
theorem of_first {α : Type} {p : α → Bool} : ∀ (k : Nat) (ps : List (List α)) (i : Nat) (h : i < ps.flatten.length), p ps.flatten[i] = true → (∀ j (hj : j < i), p (ps.flatten[j]'(by omega)) = false) →
    ∃ q, ps.findIdx? (·.any p) = some q ∧ (ofGo k ps)[i]? = some (k + q + 1)
  | k, [], i, h, _, _ => by simp at h
  | k, a :: ps, i, h, h1, h2 => by
    by_cases hi : i < a.length
    · have e : (a :: ps).flatten[i] = a[i] := by simp [List.getElem_append, hi]
      rw [e] at h1
      refine ⟨0, ?_, ?_⟩
      · rw [List.findIdx?_cons, if_pos]
        exact List.any_eq_true.2 ⟨a[i], List.getElem_mem _, h1⟩
      · rw [ofGo, List.getElem?_append_left (by simpa using hi), List.getElem?_replicate, if_pos hi]
    · have hf : a.any p = false := by
        rw [List.any_eq_false]
        intro y hy
        obtain ⟨j, hj, rfl⟩ := List.getElem_of_mem hy
        have := h2 j (by omega)
        have e : (a :: ps).flatten[j]'(by simp only [List.flatten_cons, List.length_append]; omega) = a[j] := by simp [List.getElem_append, hj]
        rw [e] at this
        simp [this]
      have hl : (a :: ps).flatten.length = a.length + ps.flatten.length := by simp
      have e : ∀ j (hj : j < (a :: ps).flatten.length) (hj' : ¬ j < a.length), (a :: ps).flatten[j] = ps.flatten[j - a.length]'(by omega) := fun j hj hj' => by simp [List.getElem_append, hj']
      rw [e i h hi] at h1
      obtain ⟨q, hq, ho⟩ := of_first (k + 1) ps (i - a.length) (by omega) h1 fun j hj => by
        have := h2 (j + a.length) (by omega)
        rw [e _ (by omega) (by omega)] at this
        simpa using this
      refine ⟨q + 1, ?_, ?_⟩
      · rw [List.findIdx?_cons, hf, hq]; rfl
      · rw [ofGo, List.getElem?_append_right (by simp; omega), List.length_replicate, ho]
        congr 1; omega
theorem of_none {α : Type} {p : α → Bool} (ps : List (List α)) (h : ∀ y ∈ ps.flatten, p y = false) : ps.findIdx? (·.any p) = none := by
  rw [List.findIdx?_eq_none_iff]
  intro a ha
  rw [List.any_eq_false]
  intro y hy
  rw [h y (List.mem_flatten_of_mem ha hy)]
  simp
def pageI (ps : List (List Grant)) (n : Int) : Option Nat := ps.findIdx? (·.any fun g => decide (g.number = n))
def pageN (l : List Grant) (x : Roll) (n : Int) : Int := match (asked l x).bind fun ps => pageI ps n with
  | some q => ((q + 1 : Nat) : Int)
  | none => 0
def pageOk (l : List Grant) (x : Roll) (n : Int) : Bool := ((asked l x).bind fun ps => pageI ps n).isSome

/-! ### The text -/
def footT (k : Nat) : List UInt8 := [45, 32] ++ digits (k + 1) ++ [32, 45, 10]
def endsT (p : List (List UInt8)) : List UInt8 := p.flatMap fun s => s ++ [10]
def pageT (h k : Nat) (p : List (List UInt8)) : List UInt8 := endsT p ++ List.replicate (h - p.length) 10 ++ footT k
def rollT (h : Nat) (ps : List (List (List UInt8))) (n : Nat) : List UInt8 := (List.range n).flatMap fun k => pageT h k (ps.getD k [])
theorem rollT_succ (h : Nat) (ps : List (List (List UInt8))) (n : Nat) : rollT h ps (n + 1) = rollT h ps n ++ pageT h n (ps.getD n []) := by
  simp [rollT, List.range_succ]
theorem endsT_take {p : List (List UInt8)} {i : Nat} (h : i < p.length) : endsT (p.take (i + 1)) = endsT (p.take i) ++ (p[i] ++ [10]) := by
  unfold endsT
  rw [take_succ' h]
  simp only [List.flatMap_append, List.flatMap_cons, List.flatMap_nil, List.append_nil]
theorem endsT_len {p : List (List UInt8)} {m : Nat} (h : ∀ s ∈ p, s.length ≤ m) : (endsT p).length ≤ (m + 1) * p.length := by
  induction p with
  | nil => simp [endsT]
  | cons s p ih =>
    have h1 := h s (by simp)
    have h2 := ih fun t ht => h t (by simp [ht])
    simp only [endsT, List.flatMap_cons, List.length_append, List.length_cons] at h2 ⊢
    rw [Nat.mul_add]
    simp only [List.length_nil]; omega
theorem footT_len {k : Nat} (h : k < 100) : (footT k).length ≤ 10 := by
  have := digits_len 3 (k + 1) (by omega)
  simp [footT]; omega
theorem pageT_len {h k : Nat} {p : List (List UInt8)} (hk : k < 100) (hh : h ≤ 20) (hp : p.length ≤ 20) (hs : ∀ s ∈ p, s.length ≤ 1002) : (pageT h k p).length ≤ 30000 := by
  have h1 := endsT_len hs
  have h2 := footT_len hk
  have h3 : 1003 * p.length ≤ 1003 * 20 := Nat.mul_le_mul_left _ hp
  simp only [pageT, List.length_append, List.length_replicate]; omega
theorem rollT_len {h : Nat} {ps : List (List (List UInt8))} (hh : h ≤ 20) (hp : ∀ p ∈ ps, p.length ≤ 20 ∧ ∀ s ∈ p, s.length ≤ 1002) : ∀ n, n ≤ 100 → (rollT h ps n).length ≤ 30000 * n
  | 0, _ => by simp [rollT]
  | n + 1, hn => by
    have h1 := rollT_len hh hp n (by omega)
    have h2 : (pageT h n (ps.getD n [])).length ≤ 30000 := by
      have hq : (ps.getD n []).length ≤ 20 ∧ ∀ s ∈ ps.getD n [], s.length ≤ 1002 := by
        rw [List.getD_eq_getElem?_getD]
        cases e : ps[n]? with
        | none => simp
        | some p => exact hp p (List.mem_of_getElem? e)
      exact pageT_len (by omega) hh hq.1 hq.2
    rw [rollT_succ, List.length_append]; omega
def textOk (l : List Grant) (x : Roll) : Bool := (asked l x).isSome
def textR (l : List Grant) (x : Roll) : List UInt8 := rollT x.height.toNat (pagesL l x) (pagesL l x).length
theorem pagesL_ok {l : List Grant} {x : Roll} : (pagesL l x).length ≤ 12 ∧ ∀ p ∈ pagesL l x, p ≠ [] ∧ p.length ≤ 20 ∧ p.length ≤ x.height.toNat ∧ ∀ s ∈ p, s.length ≤ 1002 := by
  unfold pagesL
  cases h : asked l x with
  | none => simp
  | some ps =>
    refine ⟨by simpa using asked_count h, fun p hp => ?_⟩
    simp only [Option.getD_some, List.mem_map] at hp
    obtain ⟨q, hq, rfl⟩ := hp
    obtain ⟨h1, h2, h3, _⟩ := asked_page h q hq
    refine ⟨?_, h2, h3, asked_line h q hq⟩
    cases q with
    | nil => exact absurd rfl h1
    | cons g q =>
      have := entryL_pos x.width g
      intro e
      have e := congrArg List.length e
      simp only [linesP, List.flatMap_cons, List.length_append, List.length_nil] at e
      omega

/-! ### By the places in the register -/
def linesX (x : Roll) (l : Register) (p : List Nat) : List (List UInt8) := p.flatMap fun q => entryL x.width (List.getD l q g00)
theorem linesX_map (x : Roll) (l : Register) (p : List Nat) : linesP x (p.map fun q => List.getD l q g00) = linesX x l p := by
  simp only [linesP, linesX, List.flatMap_map]
theorem linesX_take {x : Roll} {l : Register} {p : List Nat} {i : Nat} (h : i < p.length) : linesX x l (p.take (i + 1)) = linesX x l (p.take i) ++ entryL x.width (List.getD l p[i] g00) := by
  unfold linesX
  rw [take_succ' h]
  simp only [List.flatMap_append, List.flatMap_cons, List.flatMap_nil, List.append_nil]
theorem linesX_le (x : Roll) (l : Register) (p : List Nat) (i : Nat) : (linesX x l (p.take i)).length ≤ (linesX x l p).length := by
  conv => rhs; rw [← List.take_append_drop i p]
  simp only [linesX, List.flatMap_append, List.length_append]
  omega
theorem askedIx_iff {l : Register} {x : Roll} {ps : List (List Nat)} (h : askedIx l x = some ps) : register l = true ∧ rollOk x = true ∧ (∀ p ∈ ps, ∀ q ∈ p, q < List.length l) ∧ ps.length ≤ 12 ∧ (∀ p ∈ ps, (linesX x l p).length ≤ 20) ∧ asked l x = some (ps.map (·.map fun q => List.getD l q g00)) := by
  have h0 := h
  unfold askedIx at h
  split at h
  · rename_i ha
    simp only [askedOk, Bool.and_eq_true] at ha
    have hf := packs_flat h
    have hc := packs_count h
    have hm : asked l x = some (ps.map (·.map fun q => List.getD l q g00)) := by rw [asked_map, h0]; rfl
    refine ⟨ha.1, ha.2, fun p hp q hq => rollIx_lt (y := x.by_) q ?_, ?_, fun p hp => ?_, hm⟩
    · rw [← hf]; exact List.mem_flatten_of_mem hp hq
    · rw [rollIx_len] at hc
      have := register_len ha.1
      omega
    · have := (asked_page hm (p.map fun q => List.getD l q g00) (List.mem_map_of_mem hp)).2.1
      rwa [linesX_map] at this
  · cases h
theorem pagesL_ix {l : Register} {x : Roll} {ps : List (List Nat)} (h : askedIx l x = some ps) : pagesL l x = ps.map (linesX x l) := by
  rw [pagesL, (askedIx_iff h).2.2.2.2.2]
  simp only [Option.getD_some, List.map_map]
  refine List.map_congr_left fun p _ => linesX_map x l p
theorem pagesL_none {l : Register} {x : Roll} (h : askedIx l x = none) : pagesL l x = [] := by rw [pagesL, asked_map, h]; rfl
theorem textOk_ix (l : Register) (x : Roll) : textOk l x = (askedIx l x).isSome := by rw [textOk, asked_map, Option.isSome_map]
end Go.Proofs.YtbeoijlggphklaaGreatDoor

/- Entries of a roll: program, reference. -/
set_option linter.unusedVariables false
set_option linter.unusedSimpArgs false
namespace Go.Proofs.YtbeoijlggphklaaGreatDoor
open Go.Abs

theorem itoa_int (x : Int) (h : 0 ≤ x ∧ x ≤ 1000000000) : PCall Tryz.prog n_strconv_Itoa [I x] (S (digits x.toNat)) :=
  PCall.arg (strconv_Itoa x.toNat (by omega)) (by rw [Int.toNat_of_nonneg h.1])
theorem l1Num_int (x : Int) (h : 0 ≤ x ∧ x ≤ 1000000000) : PCall Tryz.prog n_s_l1Num [I x] (S (digits x.toNat)) :=
  PCall.arg (s_l1Num x.toNat (by omega)) (by rw [Int.toNat_of_nonneg h.1])
/-- The first lines of an entry. -/
def entA (w : Int) (g : Grant) (i : Nat) : List (List UInt8) := headT g :: ((fill (w - 2) (parts 32 (armsT g.arms))).take i).map fun x => [32, 32] ++ x
theorem entA_succ {w : Int} {g : Grant} {i : Nat} (h : i < (fill (w - 2) (parts 32 (armsT g.arms))).length) : entA w g (i + 1) = entA w g i ++ [[32, 32] ++ (fill (w - 2) (parts 32 (armsT g.arms)))[i]] := by
  unfold entA
  rw [take_succ' h, List.map_append]; rfl
theorem entA_len {w : Int} {g : Grant} {i : Nat} (h : i ≤ (fill (w - 2) (parts 32 (armsT g.arms))).length) : (entA w g i).length = i + 1 := by
  simp only [entA, List.length_cons, List.length_map, List.length_take]; omega
theorem entA_all (w : Int) (g : Grant) : entA w g (fill (w - 2) (parts 32 (armsT g.arms))).length = entryL w g := by rw [entA, List.take_length]; rfl
set_option maxHeartbeats 1000000 in
theorem i_entry (g : Grant) (w : Int) (hg : grantOk g = true) (hw : 20 ≤ w ∧ w ≤ 60) : PCall Tryz.prog n_i_entry [eGrant g, I w] (.own 1 ((entryL w g).map S)) := by
  obtain ⟨h1, h2, h3, h4⟩ := grantOk_iff hg
  have hnl := nameOk_len h2
  have d1 := digits_len 3 g.number.toNat (by omega)
  have d2 := digits_len 3 g.year.toNat (by omega)
  have ht := armsT_len g.arms
  refine PCall.of fn_i_entry (by simp) ?_
  simp [c_i_entry, r_i_entry_0, r_i_entry_1, p_i_entry_1]
  refine callD_v (PCall.arg (itoa_int g.number (by omega)) (by simp)) ?_ ?_ ?_
  · simp
  · simp
  simp
  repeat (refine ⟨by omega, ?_⟩)
  refine callD_v (PCall.arg (itoa_int g.year (by omega)) (by simp)) ?_ ?_ ?_
  · simp
  · simp
  simp
  repeat (refine ⟨by omega, ?_⟩)
  refine ⟨oEnd_of (by simp [p_i_entry_1]) (by simp), ?_⟩
  simp [r_i_entry_2]
  refine callQ_v (PCall.arg (i_Arms_text g.arms h4) (by simp)) ?_
  simp
  rw [wrap64 (n := w - 2) (by omega) (by omega)]
  refine callQ_of (PCall.arg (i_wrapped (armsT g.arms) (w - 2) (by omega) (by omega)) (by simp)) rfl (.inl (by simp)) (by simp) ?_
  have hfs := fill_short (a := g.arms) (w := w - 2) (by omega)
  have hfl := fill_len (w - 2) (parts 32 (armsT g.arms))
  have hpl := armsT_words g.arms
  have hes := @entA_succ w g
  have hel := @entA_len w g
  have hea := entA_all w g
  have he0 : entA w g 0 = [headT g] := rfl
  rw [← hea]
  generalize fill (w - 2) (parts 32 (armsT g.arms)) = L at hfs hfl hes hel hea ⊢
  simp
  refine loopK (fun i : Nat => ⟨[(5, .sl 20 0 (i + 1)), (26, .sl 26 0 L.length), (27, I L.length), (28, I i)], [(26, ⟨1, L.map S⟩), (20, ⟨1, (entA w g i).map S⟩)], []⟩) (fun i => L.length - i) (fun i => i ≤ L.length) 0 (Wk.list rfl (by simp) (by simp [he0, headT])) (by simp) ?_
  intro i hi K hN hR hE
  have hli := hel hi
  simp [l_i_entry_7, r_i_entry_3]
  refine ⟨fun hlt => ?_, fun hge => ?_⟩
  · have hx := hfs L[i] (List.getElem_mem _)
    have hsx := hes hlt
    have ht1 : List.take (i + 1) (List.map S (entA w g i)) = List.map S (entA w g i) := List.take_of_length_le (by rw [List.length_map, hli]; omega)
    simp [r_i_entry_4, hlt]
    simp [r_i_entry_5, r_i_entry_6, hli, ht1]
    refine ⟨by omega, by unfold lenBound; omega, ?_⟩
    rw [wrap64 (by omega) (by omega)]
    refine hN (i + 1) _ (by omega) (by omega) (Wk.trans (Wk.ren 36 20 (by decide) (by simp)) (Wk.list rfl ?_ ?_))
    · simp [AS.ren, ren, reN]
    · simp [AS.ren, ren, reN, renB, hsx]
  · obtain rfl : i = L.length := by omega
    refine hE _ _ ?_
    simp only [blockK_exit]
    simp [r_i_entry_8, hli]
end Go.Proofs.YtbeoijlggphklaaGreatDoor

/- FormatConsole: program, reference, law. -/
set_option linter.unusedVariables false
set_option linter.unusedSimpArgs false
namespace Go.Proofs.YtbeoijlggphklaaGreatDoor
open Go.Abs

/-- The line of a grant. -/
def lineG (g : Grant) : List UInt8 := digits g.number.toNat ++ 32 :: (g.name ++ 32 :: (digits g.year.toNat ++ 32 :: (armsT g.arms ++ [10])))
def regT (l : List Grant) : List UInt8 := l.flatMap lineG
theorem regT_take {l : List Grant} {i : Nat} (h : i < l.length) : regT (l.take (i + 1)) = regT (l.take i) ++ lineG l[i] := by
  unfold regT
  rw [take_succ' h]
  simp only [List.flatMap_append, List.flatMap_cons, List.flatMap_nil, List.append_nil]
theorem lineG_len {g : Grant} (h : grantOk g = true) : (lineG g).length ≤ 400 := by
  obtain ⟨h1, h2, h3, _⟩ := grantOk_iff h
  have := nameOk_len h2
  have d1 := digits_len 3 g.number.toNat (by omega)
  have d2 := digits_len 3 g.year.toNat (by omega)
  have := armsT_len g.arms
  simp only [lineG, List.length_append, List.length_cons, List.length_nil]; omega
theorem regT_len {l : List Grant} (h : ∀ g ∈ l, grantOk g = true) : (regT l).length ≤ 400 * l.length := by
  induction l with
  | nil => simp [regT]
  | cons g l ih =>
    have h1 := lineG_len (h g (by simp))
    have h2 := ih fun k hk => h k (by simp [hk])
    simp only [regT, List.flatMap_cons, List.length_append, List.length_cons] at h2 ⊢
    omega
theorem i_FormatRegister (l : Register) (h : register l = true) : PCall Tryz.prog n_i_FormatRegister [eRegister l] (.tup [S (regT l), B true]) := by
  have hl := register_len h
  have hg := register_grant h
  refine PCall.of fn_i_FormatRegister (by simp) ?_
  simp [c_i_FormatRegister, r_i_FormatRegister_0, r_i_FormatRegister_1]
  refine callQ_v (PCall.arg (i_IsValidRegister l) (by simp)) ?_
  simp [h]
  simp [r_i_FormatRegister_3, r_i_FormatRegister_4]
  refine loopK (fun i : Nat => ⟨[(4, S (regT (l.take i))), (11, .ro 18 (l.map eGrant)), (12, I l.length), (13, I i)], [], []⟩) (fun i => List.length l - i) (fun i => i ≤ List.length l) 0 (Wk.list rfl (by simp [regT]) (by simp)) (by simp) ?_
  intro i hi K hN hR hE
  simp [l_i_FormatRegister_9, r_i_FormatRegister_5]
  refine ⟨fun hlt => ?_, fun hge => ?_⟩
  · have hgo := hg l[i] (List.getElem_mem _)
    obtain ⟨h1, h2, h3, h4⟩ := grantOk_iff hgo
    have hlg := lineG_len hgo
    have hrt := regT_take hlt
    have hrl := regT_len (l := l.take i) fun g hm => hg g (List.mem_of_mem_take hm)
    rw [List.length_take] at hrl
    have hlE : (lineG l[i]).length = (digits l[i].number.toNat).length + (l[i].name.length + ((digits l[i].year.toNat).length + ((armsT l[i].arms).length + 1) + 1 + 1) + 1) := by simp [lineG]; omega
    simp [r_i_FormatRegister_6, hlt]
    simp [r_i_FormatRegister_7, p_i_FormatRegister_7]
    refine callD_v (PCall.arg (itoa_int l[i].number (by omega)) (by simp)) ?_ ?_ ?_
    · simp
    · simp
    simp
    repeat (refine ⟨by omega, ?_⟩)
    refine callD_v (PCall.arg (itoa_int l[i].year (by omega)) (by simp)) ?_ ?_ ?_
    · simp
    · simp
    simp
    repeat (refine ⟨by omega, ?_⟩)
    refine callD_v (PCall.arg (i_Arms_text l[i].arms h4) (by simp)) ?_ ?_ ?_
    · simp
    · simp
    simp
    repeat (refine ⟨by omega, ?_⟩)
    refine ⟨oEnd_of (by simp [p_i_FormatRegister_7]) (by simp), ?_⟩
    simp [r_i_FormatRegister_8]
    rw [wrap64 (by omega) (by omega)]
    refine hN (i + 1) _ (by omega) (by omega) (Wk.list rfl (by simp [hrt, lineG]) (by simp))
  · obtain rfl : i = List.length l := by omega
    refine hE _ _ ?_
    simp only [blockK_exit]
    simp [r_i_FormatRegister_10]
theorem s_l16Text (l : Register) (h : register l = true) : PCall Tryz.prog n_s_l16Text [eRegister l] (S (regT l)) := by
  have hl := register_len h
  have hg := register_grant h
  refine PCall.of fn_s_l16Text (by simp) ?_
  simp [c_s_l16Text, r_s_l16Text_0, r_s_l16Text_1, r_s_l16Text_2]
  refine loopK (fun i : Nat => ⟨[(1, .ref 1 0 0), (3, S (regT (l.take i))), (4, I i)], [(1, ⟨1, [eRegister l]⟩)], []⟩) (fun i => List.length l - i) (fun i => i ≤ List.length l) 0 (Wk.list rfl (by simp [regT]) (by simp)) (by simp) ?_
  intro i hi K hN hR hE
  simp [l_s_l16Text_7, r_s_l16Text_3]
  refine ⟨fun hlt => ?_, fun hge => ?_⟩
  · have hgo := hg l[i] (List.getElem_mem _)
    obtain ⟨h1, h2, h3, h4⟩ := grantOk_iff hgo
    have hlg := lineG_len hgo
    have hrt := regT_take hlt
    have hrl := regT_len (l := l.take i) fun g hm => hg g (List.mem_of_mem_take hm)
    rw [List.length_take] at hrl
    have hlE : (lineG l[i]).length = (digits l[i].number.toNat).length + (l[i].name.length + ((digits l[i].year.toNat).length + ((armsT l[i].arms).length + 1) + 1 + 1) + 1) := by simp [lineG]; omega
    simp [r_s_l16Text_4, hlt]
    simp [r_s_l16Text_5, p_s_l16Text_5]
    refine callD_v (PCall.arg (l1Num_int l[i].number (by omega)) (by simp)) ?_ ?_ ?_
    · simp
    · simp
    simp
    repeat (refine ⟨by omega, ?_⟩)
    refine callD_v (PCall.arg (l1Num_int l[i].year (by omega)) (by simp)) ?_ ?_ ?_
    · simp
    · simp
    simp
    repeat (refine ⟨by omega, ?_⟩)
    refine callD_v (PCall.arg (s_l6Text l[i].arms h4) (by simp)) ?_ ?_ ?_
    · simp
    · simp
    simp
    repeat (refine ⟨by omega, ?_⟩)
    refine ⟨oEnd_of (by simp [p_s_l16Text_5]) (by simp), ?_⟩
    simp [r_s_l16Text_6]
    rw [wrap64 (by omega) (by omega)]
    refine hN (i + 1) _ (by omega) (by omega) (Wk.list rfl (by simp [hrt, lineG]) (by simp))
  · obtain rfl : i = List.length l := by omega
    refine hE _ _ ?_
    simp only [blockK_exit]
    simp [r_s_l16Text_8]
def formT (c : Console) : List UInt8 := if consoleOk c then regT c.grants ++ (digits c.log.count.toNat ++ [10]) else []
theorem console_iff {c : Console} (h : consoleOk c = true) : register c.grants = true ∧ 0 ≤ c.log.count ∧ c.log.count ≤ 60 := by
  simp only [consoleOk, Bool.and_eq_true] at h
  exact ⟨h.1, logOk_count h.2⟩
theorem i_FormatConsole (c : Console) (hf : fits c.log) : PCall Tryz.prog n_i_FormatConsole [eConsole c] (.tup [S (formT c), B (consoleOk c)]) := by
  refine PCall.of fn_i_FormatConsole (by simp) ?_
  simp [c_i_FormatConsole, r_i_FormatConsole_0, r_i_FormatConsole_1]
  refine callQ_v (PCall.arg (i_IsValidConsole c hf) (by simp)) ?_
  cases h : consoleOk c with
  | false => simp [r_i_FormatConsole_2, formT, h]
  | true =>
  obtain ⟨h1, h2, h3⟩ := console_iff h
  have hrl := regT_len (register_grant h1)
  have hl := register_len h1
  have d1 := digits_len 3 c.log.count.toNat (by omega)
  simp [r_i_FormatConsole_3]
  refine callQ_of (PCall.arg (i_FormatRegister c.grants h1) (by simp)) rfl (.inl (by simp)) (by simp) ?_
  simp [r_i_FormatConsole_4]
  refine callQ_v (PCall.arg (itoa_int c.log.count (by omega)) (by simp)) ?_
  simp
  repeat (refine ⟨by omega, ?_⟩)
  simp [formT, h]
theorem s_FormatConsole (c : Console) (hf : fits c.log) : PCall Tryz.prog n_s_FormatConsole [eConsole c] (.tup [S (formT c), B (consoleOk c)]) := by
  refine PCall.of fn_s_FormatConsole (by simp) ?_
  simp [c_s_FormatConsole, r_s_FormatConsole_0, r_s_FormatConsole_1]
  refine callQ_v (PCall.arg (s_l28Good c hf) (by simp)) ?_
  cases h : consoleOk c with
  | false => simp [r_s_FormatConsole_2, formT, h]
  | true =>
  obtain ⟨h1, h2, h3⟩ := console_iff h
  have hrl := regT_len (register_grant h1)
  have hl := register_len h1
  have d1 := digits_len 3 c.log.count.toNat (by omega)
  simp [r_s_FormatConsole_3, p_s_FormatConsole_3]
  refine callD_v (PCall.arg (s_l16Text c.grants h1) (by simp)) ?_ ?_ ?_
  · simp
  · simp
  simp
  refine callD_v (PCall.arg (l1Num_int c.log.count (by omega)) (by simp)) ?_ ?_ ?_
  · simp
  · simp
  simp
  repeat (refine ⟨by omega, ?_⟩)
  refine ⟨oEnd_of (by simp [p_s_FormatConsole_3]) (by simp), ?_⟩
  simp [formT, h]
theorem w_FnExactFormatConsole (c : Console) : PCall Tryz.prog n_w_FnExactFormatConsole [eConsole c] (B true) := by
  refine PCall.of fn_w_FnExactFormatConsole (by simp) ?_
  simp [c_w_FnExactFormatConsole, r_w_FnExactFormatConsole_0, r_w_FnExactFormatConsole_1, r_w_FnExactFormatConsole_2]
  refine callQ_v (PCall.arg (w_szConsole c 1048576 (by omega) (by omega)) (by simp)) ?_
  simp [r_w_FnExactFormatConsole_3]
  refine ⟨fun _ => by simp [r_w_FnExactFormatConsole_4], fun hge => ?_⟩
  have hs := rest_nonneg (left := 1048576) (n := szC c) (by omega)
  have hl : c.grants.length ≤ 1048576 := by unfold szC szG at hs; omega
  have hf : fits c.log := by unfold szC at hs; unfold fits; omega
  have hS := s_FormatConsole c hf
  have hI := i_FormatConsole c hf
  generalize formT c = m at hS hI
  generalize consoleOk c = b at hS hI
  simp [r_w_FnExactFormatConsole_5]
  refine callQ_of (PCall.arg (w_toConsole c hl) (by simp)) rfl (.inl (by simp)) (by simp) ?_
  simp
  refine callQ_of (PCall.arg hS (by simp)) rfl (.inl (by simp)) (by simp) ?_
  simp [r_w_FnExactFormatConsole_6]
  refine callQ_of (PCall.arg (w_toConsole c hl) (by simp)) rfl (.inl (by simp)) (by simp) ?_
  simp [r_w_FnExactFormatConsole_7]
  refine callQ_of (PCall.arg hI (by simp)) rfl (.inl (by simp)) (by simp) ?_
  simp [r_w_FnExactFormatConsole_8]
  simp [r_w_FnExactFormatConsole_10, p_w_FnExactFormatConsole_10]
  refine callD_of (PCall.arg (w_toConsole c hl) (by simp)) rfl (.inl (by simp)) ?_ ?_ ?_
  · simp
  · simp
  simp
  refine callD_v (PCall.arg (w_eqConsole c) (by simp [List.take_of_length_le])) ?_ ?_ ?_
  · simp
  · simp
  simp
  refine ⟨oEnd_of (by simp [p_w_FnExactFormatConsole_10]) (by simp), ?_⟩
  simp [r_w_FnExactFormatConsole_12]
end Go.Proofs.YtbeoijlggphklaaGreatDoor
