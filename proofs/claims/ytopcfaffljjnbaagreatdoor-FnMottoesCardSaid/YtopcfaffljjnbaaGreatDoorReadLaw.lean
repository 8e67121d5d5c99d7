/- Scrolls that are read back: the lines of a picture, in plain Lean. No program in sight. -/
import Derived.Test.YtopcfaffljjnbaaGreatDoorWScroll
set_option linter.unusedVariables false
set_option linter.unusedSimpArgs false
namespace Go.Proofs.YtopcfaffljjnbaaGreatDoor
open Go.Abs

/-! ### A motto is its lines put together -/
theorem joinW_cons (x : List UInt8) (l : List (List UInt8)) : joinW (x :: l) = if l = [] then x else x ++ 32 :: joinW l := by
  cases l with
  | nil => rfl
  | cons y l => rw [if_neg (by simp)]; rfl
theorem joinW_parts (s : List UInt8) : joinW (parts 32 s) = s := by
  induction s with
  | nil => rfl
  | cons x s ih =>
    obtain ⟨p, ps, h1, h2⟩ := parts_cons 32 x s
    rw [h2]
    rw [h1, joinW_cons] at ih
    by_cases e : x = 32
    · rw [if_pos e, joinW_cons, if_neg (by simp), joinW_cons, ih, e]; rfl
    · rw [if_neg e, joinW_cons]
      split at ih
      · rename_i h0; rw [if_pos h0, ih]
      · rename_i h0; rw [if_neg h0, ← ih]; rfl
theorem nextGo_join (w tg : Int) : ∀ (rest : List (List UInt8)) (cur : List UInt8) (t : List Int), joinW ((nextGo w tg cur rest t).1 :: (nextGo w tg cur rest t).2) = joinW (cur :: rest)
  | [], cur, t => by rw [nextGo]; split <;> rfl
  | y :: rest, cur, t => by
    rw [nextGo]
    split
    · rfl
    · rw [nextGo_join w tg rest, joinW_cons (cur ++ 32 :: y), joinW_cons cur, joinW_cons y]
      by_cases h : rest = []
      · subst h; rfl
      · rw [if_neg h, if_neg h, if_neg (by simp)]; simp
theorem evens_nil {w : Int} {l : List (List UInt8)} : evens w l = [] ↔ l = [] := by
  cases l with
  | nil => rw [evens]
  | cons x l => rw [evens]; simp
theorem evens_join (w : Int) : ∀ l : List (List UInt8), joinW (evens w l) = joinW l
  | [] => by rw [evens]
  | x :: xs => by
    have h1 := nextGo_join w (costs w (x :: xs)).head! xs x (costs w xs)
    have h2 := evens_join w (nextGo w (costs w (x :: xs)).head! x xs (costs w xs)).2
    have e := @evens_nil w (nextGo w (costs w (x :: xs)).head! x xs (costs w xs)).2
    rw [joinW_cons] at h1
    rw [evens, joinW_cons, h2, ← h1]
    simp only [e]
termination_by l => l.length
decreasing_by
  have := nextGo_len w (costs w (x :: xs)).head! xs x (costs w xs)
  simp only [List.length_cons]; omega

/-- A line of a motto: letters and spaces, none at its ends. -/
def fine (l : List UInt8) : Prop := l ≠ [] ∧ l.head? ≠ some 32 ∧ l.getLast? ≠ some 32 ∧ ∀ b ∈ l, b = 32 ∨ isAZ b = true
theorem fine_word {x : List UInt8} (h : wordOk x = true) : fine x := by
  simp only [wordOk, Bool.and_eq_true, List.all_eq_true] at h
  obtain ⟨h0, h1⟩ := h
  have hn : x ≠ [] := by rintro rfl; simp at h0
  have h32 : ∀ b ∈ x, b ≠ 32 := by
    rintro b hb rfl
    have := h1 _ hb
    simp [isAZ] at this
  refine ⟨hn, fun e => ?_, fun e => ?_, fun b hb => .inr (h1 b hb)⟩
  · exact h32 32 (List.mem_of_mem_head? (by simp [e])) rfl
  · exact h32 32 (List.mem_of_getLast? e) rfl
theorem fine_join {x y : List UInt8} (hx : fine x) (hy : fine y) : fine (x ++ 32 :: y) := by
  obtain ⟨a0, a1, a2, a3⟩ := hx
  obtain ⟨b0, b1, b2, b3⟩ := hy
  refine ⟨by simp, ?_, ?_, ?_⟩
  · cases x with
    | nil => exact absurd rfl a0
    | cons z x => simpa using a1
  · cases y with
    | nil => exact absurd rfl b0
    | cons z y =>
      rw [List.getLast?_append]
      simpa using b2
  · intro b hb
    rcases List.mem_append.1 hb with hb | hb
    · exact a3 b hb
    · rcases List.mem_cons.1 hb with hb | hb
      · exact .inl hb
      · exact b3 b hb
theorem nextGo_fine (w tg : Int) : ∀ (rest : List (List UInt8)) (cur : List UInt8) (t : List Int), fine cur → (∀ x ∈ rest, fine x) → fine (nextGo w tg cur rest t).1 ∧ ∀ x ∈ (nextGo w tg cur rest t).2, fine x
  | [], cur, t, h, _ => by rw [nextGo]; split <;> exact ⟨h, by simp⟩
  | y :: rest, cur, t, h, hr => by
    rw [nextGo]
    split
    · exact ⟨h, hr⟩
    · exact nextGo_fine w tg rest _ _ (fine_join h (hr y (by simp))) fun x hx => hr x (by simp [hx])
theorem evens_fine (w : Int) : ∀ l : List (List UInt8), (∀ x ∈ l, fine x) → ∀ y ∈ evens w l, fine y
  | [], _, y, hy => by rw [evens] at hy; simp at hy
  | x :: xs, h, y, hy => by
    obtain ⟨h1, h2⟩ := nextGo_fine w (costs w (x :: xs)).head! xs x (costs w xs) (h x (by simp)) fun x hx => h x (by simp [hx])
    rw [evens, List.mem_cons] at hy
    rcases hy with rfl | hy
    · exact h1
    · exact evens_fine w (nextGo w (costs w (x :: xs)).head! x xs (costs w xs)).2 h2 y hy
termination_by l => l.length
decreasing_by
  have := nextGo_len w (costs w (x :: xs)).head! xs x (costs w xs)
  simp only [List.length_cons]; omega
theorem onScroll_fine {s : List UInt8} {w : Int} (h : onScroll s w = true) : ∀ x ∈ parts 32 s, fine x := by
  simp only [onScroll, Bool.and_eq_true] at h
  have h1 := h.1
  rw [motto_parts, Bool.and_eq_true, List.all_eq_true] at h1
  exact fun x hx => fine_word (h1.2 x hx)
theorem fine_no10 {x : List UInt8} (h : fine x) : (10 : UInt8) ∉ x := fun hm => by
  rcases h.2.2.2 10 hm with e | e
  · exact absurd e (by decide)
  · simp [isAZ] at e

/-! ### The rows of a picture -/
def rowP (w : Int) (x : List UInt8) : List UInt8 := [40, 32] ++ centerT x w ++ [32, 41]
theorem centerT_no10 {w : Int} {x : List UInt8} (h : (10 : UInt8) ∉ x) : (10 : UInt8) ∉ centerT x w := by
  unfold centerT
  simp only [List.mem_append, List.mem_replicate, not_or]
  exact ⟨⟨fun h => absurd h.2 (by decide), h⟩, fun h => absurd h.2 (by decide)⟩
theorem rowP_no10 {w : Int} {x : List UInt8} (h : (10 : UInt8) ∉ x) : (10 : UInt8) ∉ rowP w x := by
  have := centerT_no10 (w := w) h
  unfold rowP
  simp [this]
theorem edge_no10 (w : Int) : (10 : UInt8) ∉ edge w := by
  unfold edge
  simp only [List.mem_replicate, not_and]
  exact fun _ => by decide
theorem parts_lines {w : Int} (rest : List UInt8) : ∀ L : List (List UInt8), (∀ x ∈ L, (10 : UInt8) ∉ x) → parts 10 (linesP w L ++ rest) = L.map (rowP w) ++ parts 10 rest
  | [], _ => by simp [linesP]
  | x :: L, h => by
    have ih := parts_lines (w := w) rest L fun y hy => h y (by simp [hy])
    have e : linesP w (x :: L) ++ rest = rowP w x ++ 10 :: (linesP w L ++ rest) := by simp [linesP, lineP, rowP]
    rw [e, parts_at (rowP_no10 (h x (by simp))), ih]
    simp
theorem parts_pict {w : Int} {L : List (List UInt8)} (h : ∀ x ∈ L, (10 : UInt8) ∉ x) : parts 10 (pictP w L) = ([47] ++ edge w ++ [92]) :: (L.map (rowP w) ++ [[92] ++ edge w ++ [47], []]) := by
  have h1 : (10 : UInt8) ∉ [47] ++ edge w ++ [92] := by simp [edge_no10]
  have h2 : (10 : UInt8) ∉ [92] ++ edge w ++ [47] := by simp [edge_no10]
  have e : pictP w L = ([47] ++ edge w ++ [92]) ++ 10 :: (linesP w L ++ (([92] ++ edge w ++ [47]) ++ 10 :: [])) := by simp [pictP]
  rw [e, parts_at h1, parts_lines _ L h, parts_at h2]
  rfl

/-! ### What is read -/
def trimSp (m : List UInt8) : List UInt8 := Lib.trimRightB (Lib.trimLeftB m 32) 32
def sinner (r : List UInt8) : List UInt8 := trimSp ((r.drop 2).take (r.length - 4))
def sjoin : List UInt8 → List (List UInt8) → List UInt8
  | acc, [] => acc
  | acc, x :: xs => sjoin ((if acc = [] then [] else acc ++ [32]) ++ x) xs
def midRows (s : List UInt8) : List (List UInt8) := ((parts 10 s).drop 1).take ((parts 10 s).length - 3)
def specM (s : List UInt8) : List UInt8 := sjoin [] ((midRows s).map sinner)
def widthS (s : List UInt8) : Int := (((parts 10 s).headD []).length : Int) - 4
def specOk (s : List UInt8) : Bool := decide (s.length ≤ 4000) && (decide (4 ≤ (parts 10 s).length) && (inR (widthS s) 1 40 && (midRows s).all fun r => decide ((r.length : Int) = widthS s + 4)))
def readOk (s : List UInt8) : Bool := specOk s && (onScroll (specM s) (widthS s) && decide (scrollT (specM s) (widthS s) = s))
def readM (s : List UInt8) : List UInt8 := if readOk s then specM s else []
def readW (s : List UInt8) : Int := if readOk s then widthS s else 0
def innerI (r : List UInt8) : Option (List UInt8) := if Lib.hasPrefix r [40, 32] then some (Lib.trimB (Lib.trimSuffix (Lib.trimPrefix r [40, 32]) [32, 41]) 32) else none
def implM (s : List UInt8) : List UInt8 := joinW (((parts 10 s).drop 1).filterMap innerI)
def readOkI (s : List UInt8) : Bool := decide (s.length ≤ 4000) && (onScroll (implM s) (widthS s) && decide (scrollT (implM s) (widthS s) = s))

theorem dropWhile_rep {a : Nat} {l : List UInt8} (h : l.head? ≠ some 32) : (List.replicate a 32 ++ l).dropWhile (· == (32 : UInt8)) = l := by
  induction a with
  | zero =>
    cases l with
    | nil => rfl
    | cons x l =>
      have : ¬ x = 32 := fun e => h (by simp [e])
      simp [this]
  | succ a ih => simpa [List.replicate_succ] using ih
theorem trimL_rep {a : Nat} {l : List UInt8} (h : l.head? ≠ some 32) : Lib.trimLeftB (List.replicate a 32 ++ l) 32 = l := dropWhile_rep h
theorem trimR_rep {a : Nat} {l : List UInt8} (h : l.getLast? ≠ some 32) : Lib.trimRightB (l ++ List.replicate a 32) 32 = l := by
  unfold Lib.trimRightB
  rw [List.reverse_append, List.reverse_replicate, dropWhile_rep (by rwa [List.head?_reverse]), List.reverse_reverse]
theorem head_app {x y : List UInt8} (h : x ≠ []) : (x ++ y).head? = x.head? := by
  cases x with
  | nil => exact absurd rfl h
  | cons a x => rfl
theorem last_app {x y : List UInt8} (h : y ≠ []) : (x ++ y).getLast? = y.getLast? := by
  rw [List.getLast?_append]
  cases hy : y.getLast? with
  | none => exact absurd (List.getLast?_eq_none_iff.1 hy) h
  | some a => rfl
theorem trim_center {w : Int} {x : List UInt8} (h : fine x) : trimSp (centerT x w) = x ∧ Lib.trimB (centerT x w) 32 = x := by
  unfold trimSp Lib.trimB centerT
  constructor
  · rw [List.append_assoc, trimL_rep (by rw [head_app h.1]; exact h.2.1), trimR_rep h.2.2.1]
  · rw [trimR_rep (by rw [last_app h.1]; exact h.2.2.1), trimL_rep h.2.1]
theorem sinner_row {w : Int} {x : List UInt8} (h : fine x) : sinner (rowP w x) = x := by
  have e : (rowP w x).drop 2 = centerT x w ++ [32, 41] := rfl
  have e2 : (rowP w x).length - 4 = (centerT x w).length := by simp [rowP]
  unfold sinner
  rw [e, e2, List.take_left, (trim_center h).1]
theorem innerI_row {w : Int} {x : List UInt8} (h : fine x) : innerI (rowP w x) = some x := by
  have e1 : Lib.hasPrefix (rowP w x) [40, 32] = true := by simp [Lib.hasPrefix, rowP]
  have e2 : Lib.trimPrefix (rowP w x) [40, 32] = centerT x w ++ [32, 41] := by
    unfold Lib.trimPrefix
    rw [if_pos e1]; rfl
  have e3 : Lib.trimSuffix (centerT x w ++ [32, 41]) [32, 41] = centerT x w := by
    have : Lib.hasSuffix (centerT x w ++ [32, 41]) [32, 41] = true := by
      unfold Lib.hasSuffix
      rw [List.isSuffixOf_iff_suffix]
      exact List.suffix_append _ _
    unfold Lib.trimSuffix
    rw [if_pos this, List.length_append, Nat.add_sub_cancel, List.take_left]
  unfold innerI
  rw [if_pos e1, e2, e3, (trim_center h).2]
theorem innerI_foot (w : Int) : innerI ([92] ++ edge w ++ [47]) = none := by
  have e1 : Lib.hasPrefix ([92] ++ edge w ++ [47]) [40, 32] = false := rfl
  unfold innerI
  rw [e1]; rfl
theorem filterMap_rows {w : Int} : ∀ L : List (List UInt8), (∀ x ∈ L, fine x) → (L.map (rowP w)).filterMap innerI = L
  | [], _ => rfl
  | x :: L, h => by
    rw [List.map_cons, List.filterMap_cons, innerI_row (h x (by simp)), filterMap_rows L fun y hy => h y (by simp [hy])]
theorem sjoin_ne : ∀ (L : List (List UInt8)) (acc : List UInt8), acc ≠ [] → sjoin acc L = joinW (acc :: L)
  | [], acc, _ => rfl
  | x :: L, acc, h => by
    rw [sjoin, if_neg h, sjoin_ne L _ (by simp), joinW_cons, joinW_cons acc, joinW_cons x]
    by_cases e : L = []
    · simp [e]
    · simp [e]
theorem sjoin_join {L : List (List UInt8)} (h : ∀ x ∈ L, x ≠ []) : sjoin [] L = joinW L := by
  cases L with
  | nil => rfl
  | cons x L => rw [sjoin, if_pos rfl, List.nil_append, sjoin_ne L x (h x (by simp))]
theorem canon {m s : List UInt8} {w : Int} (h : onScroll m w = true) (hs : scrollT m w = s) :
    widthS s = w ∧ 4 ≤ (parts 10 s).length ∧ ((midRows s).all fun r => decide ((r.length : Int) = w + 4)) = true ∧ specM s = m ∧ implM s = m := by
  have hw := (onScroll_len h).2
  have hw1 : 1 ≤ w := by
    simp only [onScroll, Bool.and_eq_true, inR_iff] at h
    omega
  have hwf := onScroll_fine h
  have hf := evens_fine w (parts 32 m) hwf
  have hj := evens_join w (parts 32 m)
  have hn := @evens_nil w (parts 32 m)
  have hsh := evenL_short h
  rw [joinW_parts] at hj
  rw [scrollT, if_pos h] at hs
  have hE : evenL m w = evens w (parts 32 m) := by rw [evenL, if_pos h]
  rw [hE] at hs hsh
  have hL : evens w (parts 32 m) ≠ [] := fun e => parts_ne m (hn.1 e)
  generalize evens w (parts 32 m) = L at hf hj hs hsh hL
  have hp := parts_pict (w := w) (L := L) fun x hx => fine_no10 (hf x hx)
  rw [hs] at hp
  have hpos : 0 < L.length := List.length_pos_iff.2 hL
  have hmid : midRows s = L.map (rowP w) := by
    unfold midRows
    rw [hp, List.drop_succ_cons, List.drop_zero]
    have : (([47] ++ edge w ++ [92]) :: (L.map (rowP w) ++ [[92] ++ edge w ++ [47], []])).length - 3 = (L.map (rowP w)).length := by simp
    rw [this, List.take_left]
  have hel : (edge w).length = (w + 2).toNat := by simp [edge]
  refine ⟨?_, ?_, ?_, ?_, ?_⟩
  · unfold widthS
    rw [hp]
    simp only [List.headD_cons, List.length_append, List.length_cons, List.length_nil, hel]
    omega
  · rw [hp]; simp only [List.length_cons, List.length_append, List.length_map, List.length_nil]; omega
  · rw [hmid, List.all_eq_true]
    intro r hr
    obtain ⟨x, hx, rfl⟩ := List.mem_map.1 hr
    have := centerT_len (hsh x hx) (by omega)
    simp [rowP]
    omega
  · unfold specM
    rw [hmid, List.map_map]
    have : L.map (sinner ∘ rowP w) = L := by
      conv => rhs; rw [← List.map_id L]
      exact List.map_congr_left fun x hx => sinner_row (hf x hx)
    rw [this, sjoin_join fun x hx => (hf x hx).1, hj]
  · unfold implM
    rw [hp, List.drop_succ_cons, List.drop_zero, List.filterMap_append, filterMap_rows L hf]
    have : [[92] ++ edge w ++ [47], []].filterMap innerI = [] := by
      rw [List.filterMap_cons, innerI_foot]; rfl
    rw [this, List.append_nil, hj]
theorem read_same (s : List UInt8) : readOkI s = readOk s ∧ (readOk s = true → implM s = specM s) := by
  have key : readOkI s = true → readOk s = true := by
    intro h
    simp only [readOkI, Bool.and_eq_true, decide_eq_true_iff] at h
    obtain ⟨h0, h1, h2⟩ := h
    obtain ⟨g1, g2, g3, g4, g5⟩ := canon h1 h2
    have hw := inR_iff (n := widthS s) (lo := 1) (hi := 40)
    have hin : inR (widthS s) 1 40 = true := by
      simp only [onScroll, Bool.and_eq_true] at h1
      exact h1.2.1
    rw [g5] at g4
    simp only [readOk, specOk, Bool.and_eq_true, decide_eq_true_iff]
    rw [g4]
    exact ⟨⟨h0, g2, hin, g3⟩, h1, h2⟩
  have key2 : readOk s = true → implM s = specM s ∧ readOkI s = true := by
    intro h
    simp only [readOk, specOk, Bool.and_eq_true, decide_eq_true_iff] at h
    obtain ⟨⟨h0, _⟩, h1, h2⟩ := h
    obtain ⟨g1, g2, g3, g4, g5⟩ := canon h1 h2
    refine ⟨g5, ?_⟩
    simp only [readOkI, Bool.and_eq_true, decide_eq_true_iff]
    rw [g5]
    exact ⟨h0, h1, h2⟩
  refine ⟨?_, fun h => (key2 h).1⟩
  cases h : readOk s with
  | true => exact (key2 h).2
  | false =>
    cases h' : readOkI s with
    | false => rfl
    | true => rw [key h'] at h; cases h
end Go.Proofs.YtopcfaffljjnbaaGreatDoor
