/- Library: rows of texts that are searched, sorted, made compact. -/
import Derived.Test.YtopcfaffljjnbaaGreatDoorJoins
set_option linter.unusedVariables false
set_option linter.unusedSimpArgs false
namespace Go.Proofs.YtopcfaffljjnbaaGreatDoor
open Go.Abs

theorem slices_Contains_string_string (l : List (List UInt8)) (x : List UInt8) (hl : l.length ≤ 1000000) : PCall Tryz.prog n_slices_Contains_string_string [.ro 1 (l.map S), S x] (B (l.contains x)) := by
  refine PCall.belowRow (vs := [.string (bs x)]) (y := .bool (l.contains x)) (by kernel_rfl) (fun _ _ => CV_mkv rfl) ?_ ?_
  · rintro rfl w D a c _
    refine (Tryz.slices_Contains_string_empty a c (bs x) w).mono ?_
    rintro e w' ⟨rfl, rfl⟩
    exact ⟨rfl, Go.RowKit.Below.refl _ _⟩
  · intro w D b o c _ hc hb hlc
    have h := Tryz.slices_Contains_string b o l.length c (l.map bs) (bs x) w (by simp) (by omega) (fun j hj => by
      have hj : j < l.length := by simpa using hj
      rw [hc j l[j] (List.getElem?_eq_getElem hj)]
      simp [hj])
    have e : Lib.containsS ((l.map bs).take l.length) (bs x) = l.contains x := by
      rw [List.take_of_length_le (by simp), Bool.eq_iff_iff, Lib.containsS_iff, List.contains_iff_mem]
      constructor
      · intro h
        obtain ⟨y, hy, e⟩ := List.mem_map.1 h
        have e' : y = x := by
          have := congrArg (fun z : ByteArray => z.data.toList) e
          simpa [bs] using this
        rw [← e']; exact hy
      · intro h
        exact List.mem_map_of_mem h
    rw [e] at h
    refine h.mono ?_
    rintro e w' ⟨rfl, rfl⟩
    exact ⟨rfl, Go.RowKit.Below.refl _ _⟩

/-! ### Functions that write a row in place -/
theorem CR_of_texts {w : World} {D : Nat → Prop} {φ : Nat → Option Pl} : ∀ (l : List (List UInt8)) (xs : List Value), (∀ (j : Nat) (x : List UInt8), l[j]? = some x → xs[j]? = some (.string (bs x))) → (∀ x ∈ l, Abs.one (.string (bs x)) = true) → CR w D 1 (l.map S) φ xs []
  | [], xs, _, _ => by simp [CR]
  | x :: l, xs, h, ho => by
    have h0 := h 0 x rfl
    cases xs with
    | nil => simp at h0
    | cons v rest =>
      simp at h0
      subst h0
      have ih := CR_of_texts (w := w) (D := D) (φ := φ) l rest (fun j y hj => by simpa using h (j + 1) y (by simpa using hj)) fun y hy => ho y (by simp [hy])
      have h1 := ho x (by simp)
      simp only [List.map_cons, CR]
      refine ⟨.string (bs x), rest, [], [], rfl, ⟨rfl, ?_⟩, rfl, ⟨rfl, h1, rfl⟩, ih⟩
      show (#[Value.string (bs x)].toList).all Abs.one = true
      simp [h1]
theorem CR_one_texts {w : World} {D : Nat → Prop} {φ : Nat → Option Pl} : ∀ (l : List (List UInt8)) (xs : List Value) (f : List Nat), CR w D 1 (l.map S) φ xs f → (∀ x ∈ l, Abs.one (.string (bs x)) = true) ∧ f = []
  | [], xs, f, h => by simp only [List.map_nil, CR] at h; exact ⟨by simp, h⟩
  | x :: l, xs, f, h => by
    simp only [List.map_cons, CR, CV] at h
    obtain ⟨v, rest, f1, f2, rfl, _, rfl, ⟨_, h1, rfl⟩, h2⟩ := h
    obtain ⟨g1, g2⟩ := CR_one_texts l rest f2 h2
    refine ⟨fun y hy => ?_, by simpa using g2⟩
    rcases List.mem_cons.1 hy with rfl | hy
    · exact h1
    · exact g1 y hy
theorem noIdss_S : ∀ l : List (List UInt8), noIdss (l.map S) = true
  | [] => rfl
  | _ :: l => by simp [noIdss, noIds, noIdss_S l]
theorem putRow_at (w : World) (blk off : Nat) (d : Array (List UInt8)) (os : Array Obj) (n k : Nat) (hk : k < w.heap.size) :
    (Sort.grow (Sort.putRow encStr (Sort.ahead w n) blk off d) os).heap[k]? = if k = blk then (w.heap[k]?).map (Sort.onCells (Sort.putCells encStr off d)) else w.heap[k]? := by
  show ((w.heap.modify blk _) ++ os)[k]? = _
  rw [Array.getElem?_append_left (by simpa using hk), Array.getElem?_modify]
  by_cases e : blk = k
  · subst e; simp
  · rw [if_neg e, if_neg (fun h => e h.symm)]
theorem not_frozen {w : World} {b k : Nat} {arr : Array Value} {ty : TypeId} {fr : Nat × Nat} (hok : frOk arr fr) (hb : w.heap[b]? = some (.cells arr ty fr)) (hk : k < arr.size) : w.frozen? ⟨b, k, none⟩ = false := by
  have hz : ¬ (fr.1 ≤ k ∧ k < fr.2) := by
    rcases hok with rfl | ⟨_, h⟩
    · simp
    · omega
  unfold World.frozen?
  rw [hb]
  simpa using hz
theorem cells_after {w : World} {b off : Nat} {arr : Array Value} {ty : TypeId} {fr : Nat × Nat} {l' : List (List UInt8)} (hb : w.heap[b]? = some (.cells arr ty fr)) (os : Array Obj) (n : Nat) (hlen : off + l'.length ≤ arr.size) (hm : ∀ x ∈ l', Abs.one (.string (bs x)) = true) (D : Nat → Prop) (φ : Nat → Option Pl) :
    ∃ arr', (Sort.grow (Sort.putRow encStr (Sort.ahead w n) b off l'.toArray) os).heap[b]? = some (.cells arr' ty fr) ∧ arr'.size = arr.size ∧
      ∀ w' : World, CR w' D 1 (l'.map S) φ (arr'.toList.drop off) [] := by
  have hbl : b < w.heap.size := (Array.getElem?_eq_some_iff.1 hb).1
  refine ⟨Sort.putCells encStr off l'.toArray arr, ?_, by simp [Sort.putCells], fun w' => ?_⟩
  · rw [putRow_at w b off l'.toArray os n b hbl, if_pos rfl, hb]; rfl
  · refine CR_of_texts l' _ (fun j x hj => ?_) hm
    have hjl : j < l'.length := (List.getElem?_eq_some_iff.1 hj).1
    rw [List.getElem?_drop, Array.getElem?_toList]
    unfold Sort.putCells
    rw [Array.getElem?_mapIdx, Array.getElem?_eq_getElem (by omega), Option.map_some, if_pos ⟨by omega, by simpa using by omega⟩]
    have : l'.toArray[off + j - off]! = x := by
      rw [show off + j - off = j by omega]
      rw [List.getElem!_toArray, List.getElem!_eq_getElem?_getD, hj]; rfl
    rw [this]; rfl
/-- A library function that writes a row of texts anew in place, and returns nothing. -/
theorem MCall.inPlace {f : Nat} {l l' : List (List UInt8)} (hc : callable Tryz.prog f = true) (hbig : l.length < 4611686018427387904) (hlen : l'.length = l.length) (hmem : ∀ x ∈ l', x ∈ l ∨ x = [])
    (h0 : l = [] → ∀ (w : World) (a : Option Addr) (cap : Nat), Calls Tryz.prog f #[.slice a 0 cap] w fun e w' => e = .returned (.tuple #[]) ∧ w' = w)
    (h : ∀ (w : World) (blk off cap : Nat), Sort.Holds encStr w blk off l.toArray → blk < w.heap.size → l.length ≤ cap → l.length < 4611686018427387904 → Calls Tryz.prog f #[.slice (some ⟨blk, off, none⟩) l.length cap] w fun e w' =>
      e = .returned (.tuple #[]) ∧ ∃ n os, w' = Sort.grow (Sort.putRow encStr (Sort.ahead w n) blk off l'.toArray) os) :
    MCall Tryz.prog f [⟨1, l.map S⟩] [.sl (mid 0) 0 l.length] (.tup []) [some ⟨1, l'.map S⟩] := by
  refine ⟨hc, rfl, fun w D xs p0 F0 hD hgi hblk hnd hnD hxs => ?_⟩
  have hB := hblk 0 _ rfl
  have hF : (List.range 1).flatMap F0 = F0 0 := by simp
  rw [show ([⟨1, l.map S⟩] : List Blk).length = 1 from rfl, hF] at hnd hnD ⊢
  simp only [CVs, CV] at hxs
  obtain ⟨x, xs', f1, f2, rfl, _, ⟨rfl, hx⟩, rfl, rfl⟩ := hxs
  have hpl : plM 1 p0 (mid 0) = p0 0 := plM_mid p0 (by omega)
  rw [show ([⟨1, l.map S⟩] : List Blk).length = 1 from rfl, hpl] at hx
  have hst : ∀ F1 : Nat → List Nat, (stayK [some (⟨1, l'.map S⟩ : Blk)] 0).flatMap F1 = F1 0 := fun F1 => by simp [stayK]
  by_cases hl : l = []
  · subst hl
    have hl' : l' = [] := List.length_eq_zero_iff.1 hlen
    subst hl'
    have hxx : ∃ a cap, x = .slice a 0 cap := by
      obtain ⟨_, _, _, rfl⟩ | ⟨p, o, cap, _, rfl, _⟩ := hx
      · exact ⟨_, _, rfl⟩
      · exact ⟨_, _, rfl⟩
    obtain ⟨a, cap, rfl⟩ := hxx
    refine (h0 rfl w a cap).mono ?_
    rintro e w' ⟨rfl, rfl⟩
    refine ⟨_, D, [], F0, rfl, ⟨rfl, rfl, rfl, Nat.le_refl _, fun _ _ _ => rfl, fun _ h => h, fun _ h => .inl h, hD⟩, by simp only [CV]; exact ⟨#[], rfl, CVs_nil⟩, ?_, ?_, ?_⟩
    · intro k blk hk
      cases k with
      | zero => simp at hk; subst hk; exact hB
      | succ k => simp at hk
    · rw [hst, List.nil_append]; exact hnd
    · intro b hb
      rw [hst, List.nil_append] at hb
      exact ⟨.inr hb, (hnD b hb).2, (hnD b hb).1⟩
  have hpos : 0 < l.length := List.length_pos_iff.2 hl
  obtain ⟨_, _, h3, _⟩ | ⟨p, o, cap, hp, rfl, hncap, hcm, hcap⟩ := hx
  · omega
  obtain ⟨ho, hz⟩ := hcap.resolve_left (by omega)
  rcases hB with ⟨_, h2, _⟩ | ⟨q, arr, ty, f', hq, hs, hqz, hheap, hFq, hcr⟩
  · simp at h2; exact absurd h2 hl
  rw [hp] at hq
  cases hq
  simp only at hs hcr
  rw [hs] at ho hz
  have ho : o = p.o := by omega
  subst ho
  obtain ⟨hone, rfl⟩ := CR_one_texts l _ _ hcr
  have htx := CR_texts l _ _ hcr
  have hsz : p.o + l.length ≤ arr.size := by
    have := CR_length hcr
    simp at this; omega
  obtain ⟨fr, hok, hheap⟩ := hheap
  have hbl : p.b < w.heap.size := (Array.getElem?_eq_some_iff.1 hheap).1
  have hH : Sort.Holds encStr w p.b p.o l.toArray := by
    intro j hj
    have hj : j < l.length := by simpa using hj
    constructor
    · rw [cell?_of_blk (blk?_of_heap hheap)]
      have := htx j l[j] (List.getElem?_eq_getElem hj)
      rw [List.getElem?_drop] at this
      rw [← Array.getElem?_toList, this]
      have : l.toArray[j]! = l[j] := by rw [List.getElem!_toArray, List.getElem!_eq_getElem?_getD, List.getElem?_eq_getElem hj]; rfl
      rw [this]; rfl
    · exact not_frozen hok hheap (by omega)
  refine (h w p.b p.o cap hH hbl (by omega) hbig).mono ?_
  rintro e w' ⟨rfl, n, os, rfl⟩
  have hmo : ∀ x ∈ l', Abs.one (.string (bs x)) = true := fun x hx => by
    rcases hmem x hx with h | rfl
    · exact hone x h
    · rfl
  obtain ⟨arr', g1, g2, g3⟩ := cells_after (l' := l') (off := p.o) hheap os n (by omega) hmo D (fun _ => p0 0)
  refine ⟨_, D, [], F0, rfl, ⟨rfl, rfl, rfl, ?_, fun b hb hbW => ?_, fun _ h => h, fun _ h => .inl h, fun b hb => ?_⟩, by simp only [CV]; exact ⟨#[], rfl, CVs_nil⟩, ?_, ?_, ?_⟩
  · show w.heap.size ≤ ((w.heap.modify _ _) ++ os).size
    simp
  · rw [putRow_at w p.b p.o l'.toArray os n b hb, if_neg]
    rintro rfl
    exact hbW (by rw [hFq]; simp)
  · show b < ((w.heap.modify _ _) ++ os).size
    have := hD b hb
    simp; omega
  · intro k blk hk
    cases k with
    | succ k => simp at hk
    | zero =>
      simp at hk; subst hk
      exact .inr ⟨p, arr', ty, [], hp, hs, by rw [hqz, g2], ⟨fr, hok.size g2, g1⟩, hFq, g3 _⟩
  · rw [hst, List.nil_append]; exact hnd
  · intro b hb
    rw [hst, List.nil_append] at hb
    refine ⟨.inr hb, ?_, (hnD b hb).1⟩
    show b < ((w.heap.modify _ _) ++ os).size
    have := (hnD b hb).2
    simp; omega
def sortS (l : List (List UInt8)) : List (List UInt8) := l.mergeSort fun x y => decide (x ≤ y)
theorem sortS_len (l : List (List UInt8)) : (sortS l).length = l.length := List.length_mergeSort l
theorem slices_Sort_string_string (l : List (List UInt8)) (hl : l.length ≤ 1000000) : MCall Tryz.prog n_slices_Sort_string_string [⟨1, l.map S⟩] [.sl (mid 0) 0 l.length] (.tup []) [some ⟨1, (sortS l).map S⟩] :=
  MCall.inPlace (by kernel_rfl) (by omega) (sortS_len l) (fun x hx => .inl (List.mem_mergeSort.1 hx)) (fun _ w a cap => Tryz.slices_Sort_string_none a cap w)
    (fun w blk off cap hH hb _ hbig => Tryz.slices_Sort_string blk off cap l w hH hb hbig)

theorem compact_mem {l : List (List UInt8)} : ∀ x ∈ Lib.compact l, x ∈ l := by
  intro x hx
  unfold Lib.compact Lib.compactUpTo at hx
  obtain ⟨j, hj, rfl⟩ := List.mem_map.1 hx
  have hj : j < l.length := List.mem_range.1 (List.mem_filter.1 hj).1
  rw [List.getElem!_toArray, List.getElem!_eq_getElem?_getD, List.getElem?_eq_getElem hj]
  exact List.getElem_mem hj
theorem compact_len (l : List (List UInt8)) : (Lib.compact l).length ≤ l.length := by
  unfold Lib.compact Lib.compactUpTo
  rw [List.length_map]
  have := List.length_filter_le (Lib.keeps l.toArray) (List.range l.length)
  rwa [List.length_range] at this
theorem slices_Compact_string_string (l : List (List UInt8)) (hl : l.length ≤ 1000000) : MCall Tryz.prog n_slices_Compact_string_string [⟨1, l.map S⟩] [.sl (mid 0) 0 l.length] (.own 1 ((Lib.compact l).map S)) [none] := by
  refine ⟨by kernel_rfl, rfl, fun w D xs p0 F0 hD hgi hblk hnd hnD hxs => ?_⟩
  have hB := hblk 0 _ rfl
  have hF : (List.range 1).flatMap F0 = F0 0 := by simp
  rw [show ([⟨1, l.map S⟩] : List Blk).length = 1 from rfl, hF] at hnd hnD ⊢
  simp only [CVs, CV] at hxs
  obtain ⟨x, xs', f1, f2, rfl, _, ⟨rfl, hx⟩, rfl, rfl⟩ := hxs
  have hpl : plM 1 p0 (mid 0) = p0 0 := plM_mid p0 (by omega)
  rw [show ([⟨1, l.map S⟩] : List Blk).length = 1 from rfl, hpl] at hx
  have hst : ∀ F1 : Nat → List Nat, (stayK [(none : Option Blk)] 0).flatMap F1 = [] := fun F1 => by simp [stayK]
  have hng : Grow w D (F0 0) w D := ⟨rfl, rfl, rfl, Nat.le_refl _, fun _ _ _ => rfl, fun _ h => h, fun _ h => .inl h, hD⟩
  by_cases hl0 : l = []
  · subst hl0
    have hc0 : Lib.compact ([] : List (List UInt8)) = [] := rfl
    rw [hc0]
    rcases hx with ⟨_, _, _, rfl⟩ | ⟨p, o, cap, hp, rfl, hncap, hcm, hcap⟩
    · refine (Tryz.slices_Compact_string_empty none 0 w).mono ?_
      rintro e w' ⟨rfl, rfl⟩
      refine ⟨_, D, [], F0, rfl, hng, .inl ⟨rfl, rfl, rfl⟩, fun k blk hk => ?_, by rw [hst]; simp, fun b hb => ?_⟩
      · cases k <;> simp at hk
      · rw [hst] at hb; simp at hb
    · refine (Tryz.slices_Compact_string_empty (some ⟨p.b, o, none⟩) cap w).mono ?_
      rintro e w' ⟨rfl, rfl⟩
      rcases hB with ⟨h1, _, _⟩ | ⟨q, arr, ty, f', hq, hs, hqz, hheap, hFq, hcr⟩
      · rw [hp] at h1; cases h1
      rw [hp] at hq
      cases hq
      simp only at hs hcr
      simp only [List.map_nil, CR] at hcr
      subst hcr
      refine ⟨_, D, [p.b], F0, rfl, hng, .inr ⟨p.b, o, cap, arr, ty, [], rfl, Nat.zero_le _, hcm, ?_, hheap, rfl, by simp [CR], rfl⟩, fun k blk hk => ?_, by rw [hst]; simp, fun b hb => ?_⟩
      · rcases hcap with h | ⟨h1, h2⟩
        · exact .inl h
        · rw [hs] at h1 h2
          exact .inr (by omega)
      · cases k <;> simp at hk
      · rw [hst, List.append_nil] at hb
        have hbF : b ∈ F0 0 := by rw [hFq]; exact hb
        exact ⟨.inr hbF, (hnD b hbF).2, (hnD b hbF).1⟩
  have hpos : 0 < l.length := List.length_pos_iff.2 hl0
  obtain ⟨_, _, h3, _⟩ | ⟨p, o, cap, hp, rfl, hncap, hcm, hcap⟩ := hx
  · omega
  obtain ⟨ho, hz⟩ := hcap.resolve_left (by omega)
  rcases hB with ⟨_, h2, _⟩ | ⟨q, arr, ty, f', hq, hs, hqz, hheap, hFq, hcr⟩
  · simp at h2; exact absurd h2 hl0
  rw [hp] at hq
  cases hq
  simp only at hs hcr
  rw [hs] at ho hz
  have ho : o = p.o := by omega
  subst ho
  obtain ⟨hone, rfl⟩ := CR_one_texts l _ _ hcr
  have htx := CR_texts l _ _ hcr
  have hsz : p.o + l.length ≤ arr.size := by
    have := CR_length hcr
    simp at this; omega
  obtain ⟨fr, hok, hheap⟩ := hheap
  have hbl : p.b < w.heap.size := (Array.getElem?_eq_some_iff.1 hheap).1
  have hH : Sort.Holds encStr w p.b p.o l.toArray := by
    intro j hj
    have hj : j < l.length := by simpa using hj
    constructor
    · rw [cell?_of_blk (blk?_of_heap hheap)]
      have := htx j l[j] (List.getElem?_eq_getElem hj)
      rw [List.getElem?_drop] at this
      rw [← Array.getElem?_toList, this]
      have : l.toArray[j]! = l[j] := by rw [List.getElem!_toArray, List.getElem!_eq_getElem?_getD, List.getElem?_eq_getElem hj]; rfl
      rw [this]; rfl
    · exact not_frozen hok hheap (by omega)
  have hcl := compact_len l
  obtain ⟨l', hl'⟩ : ∃ l', Lib.compact l ++ List.replicate (l.length - (Lib.compact l).length) [] = l' := ⟨_, rfl⟩
  have hlen : l'.length = l.length := by rw [← hl', List.length_append, List.length_replicate]; omega
  refine (Tryz.slices_Compact_string p.b p.o cap l w hH (by omega) (by omega)).mono ?_
  rw [hl']
  rintro e w' ⟨rfl, n, rfl⟩
  have hmo : ∀ x ∈ l', Abs.one (.string (bs x)) = true := fun x hx => by
    rw [← hl'] at hx
    rcases List.mem_append.1 hx with h | h
    · exact hone x (compact_mem x h)
    · rw [(List.mem_replicate.1 h).2]; rfl
  obtain ⟨arr', g1, g2, g3⟩ := cells_after (l' := l') (off := p.o) hheap #[] n (by omega) hmo D (fun _ => none)
  rw [Sort.grow_empty] at g1
  have hpr : ∀ k, k < w.heap.size → (Sort.putRow encStr (Sort.ahead w n) p.b p.o l'.toArray).heap[k]? = if k = p.b then (w.heap[k]?).map (Sort.onCells (Sort.putCells encStr p.o l'.toArray)) else w.heap[k]? := fun k hk => by
    have := putRow_at w p.b p.o l'.toArray #[] n k hk
    rwa [Sort.grow_empty] at this
  have hcr2 : CR (Sort.putRow encStr (Sort.ahead w n) p.b p.o l'.toArray) D 1 ((Lib.compact l).map S) (fun _ => none) (arr'.toList.drop p.o) [] := by
    have h5 := CR_take (Lib.compact l).length (g3 (Sort.putRow encStr (Sort.ahead w n) p.b p.o l'.toArray))
    have e : (l'.map S).take (Lib.compact l).length = (Lib.compact l).map S := by rw [← List.map_take, ← hl', List.take_left' rfl]
    rwa [e] at h5
  refine ⟨_, D, [p.b], F0, rfl, ⟨rfl, rfl, rfl, ?_, fun b hb hbW => ?_, fun _ h => h, fun _ h => .inl h, fun b hb => ?_⟩, .inr ⟨p.b, p.o, cap, arr', ty, [], ?_, ?_, hcm, .inr (by omega), ⟨fr, hok.size g2, g1⟩, rfl, hcr2, ?_⟩, fun k blk hk => ?_, by rw [hst]; simp, fun b hb => ?_⟩
  · show w.heap.size ≤ (w.heap.modify _ _).size
    simp
  · rw [hpr b hb, if_neg]
    rintro rfl
    exact hbW (by rw [hFq]; simp)
  · show b < (w.heap.modify _ _).size
    have := hD b hb
    simp; omega
  · rw [List.length_map]
  · rw [List.length_map]; omega
  · exact noIdss_S _
  · cases k <;> simp at hk
  · rw [hst, List.append_nil] at hb
    have hbF : b ∈ F0 0 := by rw [hFq]; exact hb
    refine ⟨.inr hbF, ?_, (hnD b hbF).1⟩
    show b < (w.heap.modify _ _).size
    have := (hnD b hbF).2
    simp; omega
end Go.Proofs.YtopcfaffljjnbaaGreatDoor
