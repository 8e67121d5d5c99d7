/- Rolls: order, entries, pages of the grants of a register. No program in sight. -/
import Derived.Test.YtbeoijlggphklaaGreatRollLaw
import Derived.Test.YtbeoijlggphklaaGreatEntryLaw
set_option linter.unusedVariables false
set_option linter.unusedSimpArgs false
namespace Go.Proofs.YtbeoijlggphklaaGreat
open Go.Abs

structure Roll where
  by_ : Int
  width : Int
  height : Int
abbrev eRoll (x : Roll) : V := .agg [I x.by_, I x.width, I x.height]
def rollOk (x : Roll) : Bool := inR x.by_ 1 3 && inR x.width 20 60 && inR x.height 4 20

/-! ### Orders -/
def ordLt (y : Int) (a b : Grant) : Bool := if y = 2 then decide (a.name < b.name) else if y = 3 then decide (armsT a.arms < armsT b.arms) else false
def beforeS (y : Int) (a b : Grant) : Bool := if y = 2 then decide (a.name < b.name) || (decide (a.name = b.name) && decide (a.number < b.number)) else if y = 3 then decide (armsT a.arms < armsT b.arms) else decide (a.number < b.number)
def rollOrd (y : Int) (l : List Grant) : List Grant := sortR (ordLt y) l
def rollIx (y : Int) (l : List Grant) : List Nat := sortR (fun i j => beforeS y (l.getD i g00) (l.getD j g00)) (List.range l.length)
theorem sortR_range {lt lt' : Nat → Nat → Bool} : ∀ n, (∀ i j, j < i → i < n → lt i j = lt' i j) → sortR lt (List.range n) = sortR lt' (List.range n)
  | 0, _ => rfl
  | n + 1, h => by
    rw [List.range_succ, sortR_snoc, sortR_snoc, sortR_range n fun i j h1 h2 => h i j h1 (by omega)]
    refine insR_congr fun y hy => ?_
    have := List.mem_range.1 (sortR_mem.1 hy)
    exact h n y this (by omega)
theorem range_getD {l : List Grant} : (List.range l.length).map (fun i => l.getD i g00) = l := by
  refine List.ext_getElem (by simp) fun i h1 h2 => ?_
  simp at h1
  simp [h1]
theorem register_step {l : List Grant} (h : register l = true) {i : Nat} (hi : i < l.length) : stepOk l i = true := by
  simp only [register, Bool.and_eq_true, decide_eq_true_iff, List.all_eq_true] at h
  exact h.2 i (List.mem_range.2 hi)
theorem register_asc {l : List Grant} (h : register l = true) : ∀ (i j : Nat), j < i → i < l.length → (l.getD j g00).number < (l.getD i g00).number
  | 0, j, h1, _ => by omega
  | i + 1, j, h1, h2 => by
    have hs := register_step h h2
    simp only [stepOk, Bool.and_eq_true, Bool.or_eq_true, decide_eq_true_iff, pairOk, Nat.add_sub_cancel] at hs
    have hs := hs.2.1.resolve_left (by omega)
    by_cases e : j = i
    · subst e; exact hs.1
    · have := register_asc h i j (by omega) (by omega)
      omega
theorem register_grant {l : List Grant} (h : register l = true) : ∀ g ∈ l, grantOk g = true := by
  intro g hg
  obtain ⟨i, hi, rfl⟩ := List.getElem_of_mem hg
  have hs := register_step h hi
  simp only [stepOk, Bool.and_eq_true] at hs
  have := hs.1
  rwa [List.getD_eq_getElem?_getD, List.getElem?_eq_getElem hi] at this
theorem rollIx_map {y : Int} {l : List Grant} (h : register l = true) : (rollIx y l).map (fun i => l.getD i g00) = rollOrd y l := by
  have e : rollIx y l = sortR (fun i j => ordLt y (l.getD i g00) (l.getD j g00)) (List.range l.length) := by
    refine sortR_range _ fun i j h1 h2 => ?_
    have ha := register_asc h i j h1 h2
    unfold beforeS ordLt
    have e1 : decide ((l.getD i g00).number < (l.getD j g00).number) = false := by simp only [decide_eq_false_iff_not]; omega
    rw [e1]
    simp
  have h2 := sortR_map (fun i => l.getD i g00) (ordLt y) (List.range l.length)
  rw [range_getD] at h2
  rw [e, rollOrd, h2]
theorem rollIx_lt {y : Int} {l : List Grant} : ∀ i ∈ rollIx y l, i < l.length := fun i hi => List.mem_range.1 (sortR_mem.1 hi)
theorem rollIx_len (y : Int) (l : List Grant) : (rollIx y l).length = l.length := by rw [rollIx, sortR_len, List.length_range]
theorem rollOrd_len (y : Int) (l : List Grant) : (rollOrd y l).length = l.length := sortR_len _ _
theorem rollOrd_mem {y : Int} {l : List Grant} {g : Grant} : g ∈ rollOrd y l ↔ g ∈ l := sortR_mem
def orderOk (l : List Grant) (y : Int) : Bool := register l && inR y 1 3
def orderN (l : List Grant) (y : Int) : List Int := if orderOk l y then (rollOrd y l).map Grant.number else []
theorem orderN_len (l : List Grant) (y : Int) : (orderN l y).length ≤ 12 := by
  unfold orderN
  split
  · rename_i h
    simp only [orderOk, Bool.and_eq_true] at h
    have := register_len h.1
    rw [List.length_map, rollOrd_len]; exact this
  · simp

/-! ### Entries -/
def headT (g : Grant) : List UInt8 := digits g.number.toNat ++ [46, 32] ++ g.name ++ [44, 32] ++ digits g.year.toNat
def entryL (w : Int) (g : Grant) : List (List UInt8) := headT g :: (fill (w - 2) (parts 32 (armsT g.arms))).map fun x => [32, 32] ++ x
def entryOk (g : Grant) (w : Int) : Bool := register [g] && inR w 20 60
def entryR (g : Grant) (w : Int) : List (List UInt8) := if entryOk g w then entryL w g else []
theorem armsT_words (a : Arms) : (parts 32 (armsT a)).length ≤ 301 := by
  have h1 := parts_count 32 (armsT a)
  have h2 := count_le 32 (armsT a)
  have h3 := armsT_len a
  omega
theorem fill_len (w : Int) (L : List (List UInt8)) : (fill w L).length ≤ L.length := by
  cases L with
  | nil => simp [fill]
  | cons x L => rw [fill]; have := fillGo_count w L x; simpa using this
theorem entryL_len (w : Int) (g : Grant) : (entryL w g).length ≤ 302 := by
  have h1 := fill_len (w - 2) (parts 32 (armsT g.arms))
  have h2 := armsT_words g.arms
  simp only [entryL, List.length_cons, List.length_map]; omega
theorem entryL_pos (w : Int) (g : Grant) : 1 ≤ (entryL w g).length := by simp [entryL]
theorem nameOk_len {s : List UInt8} (h : nameOk s = true) : 1 ≤ s.length ∧ s.length ≤ 12 := by
  simp only [nameOk, Bool.and_eq_true, inR_iff] at h
  omega
theorem grantOk_iff {g : Grant} (h : grantOk g = true) : (1 ≤ g.number ∧ g.number ≤ 999) ∧ nameOk g.name = true ∧ (1000 ≤ g.year ∧ g.year ≤ 2999) ∧ arms g.arms = true := by
  simp only [grantOk, Bool.and_eq_true, inR_iff] at h
  exact ⟨h.1, h.2.1, h.2.2.1, h.2.2.2⟩
theorem headT_len {g : Grant} (h : grantOk g = true) : (headT g).length ≤ 40 := by
  obtain ⟨h1, h2, h3, _⟩ := grantOk_iff h
  have := nameOk_len h2
  have d1 := digits_len 3 g.number.toNat (by omega)
  have d2 := digits_len 3 g.year.toNat (by omega)
  simp [headT]; omega
theorem fill_short {w : Int} {a : Arms} (hw : w ≤ 1000) : ∀ x ∈ fill w (parts 32 (armsT a)), x.length ≤ 1000 := by
  intro x hx
  have hp : ∀ y ∈ parts 32 (armsT a), y.length ≤ 1000 := fun y hy => by have := parts_less hy; have := armsT_len a; omega
  cases hL : parts 32 (armsT a) with
  | nil => rw [hL] at hx; simp [fill] at hx
  | cons y L =>
    rw [hL] at hx hp
    exact fillGo_long w 1000 hw L y (hp y (by simp)) (fun z hz => hp z (by simp [hz])) x hx
theorem entryL_short {w : Int} {g : Grant} (hw : w ≤ 1000) (h : grantOk g = true) : ∀ x ∈ entryL w g, x.length ≤ 1002 := by
  intro x hx
  rcases List.mem_cons.1 hx with rfl | hx
  · have := headT_len h; omega
  · obtain ⟨y, hy, rfl⟩ := List.mem_map.1 hx
    have := fill_short (a := g.arms) (w := w - 2) (by omega) y hy
    simp; omega

/-! ### Pages -/
def pagesG (x : Roll) (l : List Grant) : Option (List (List Grant)) := packs (fun g => (entryL x.width g).length) x.height.toNat (rollOrd x.by_ l)
def pagesIx (x : Roll) (l : List Grant) : Option (List (List Nat)) := packs (fun i => (entryL x.width (l.getD i g00)).length) x.height.toNat (rollIx x.by_ l)
theorem pagesIx_map {x : Roll} {l : List Grant} (h : register l = true) : pagesG x l = (pagesIx x l).map (·.map (·.map fun i => l.getD i g00)) := by
  rw [pagesG, ← rollIx_map h, packs_map]; rfl
def askedOk (l : List Grant) (x : Roll) : Bool := register l && rollOk x
def asked (l : List Grant) (x : Roll) : Option (List (List Grant)) := if askedOk l x then pagesG x l else none
def askedIx (l : List Grant) (x : Roll) : Option (List (List Nat)) := if askedOk l x then pagesIx x l else none
theorem asked_map (l : List Grant) (x : Roll) : asked l x = (askedIx l x).map (·.map (·.map fun i => l.getD i g00)) := by
  unfold asked askedIx
  split
  · rename_i h
    simp only [askedOk, Bool.and_eq_true] at h
    exact pagesIx_map h.1
  · rfl
def linesP (x : Roll) (p : List Grant) : List (List UInt8) := p.flatMap (entryL x.width)
def pagesL (l : List Grant) (x : Roll) : List (List (List UInt8)) := ((asked l x).getD []).map (linesP x)
theorem linesP_len (x : Roll) (p : List Grant) : (linesP x p).length = sizeB (fun g => (entryL x.width g).length) p := by
  simp [linesP, sizeB, List.length_flatMap]
end Go.Proofs.YtbeoijlggphklaaGreat
