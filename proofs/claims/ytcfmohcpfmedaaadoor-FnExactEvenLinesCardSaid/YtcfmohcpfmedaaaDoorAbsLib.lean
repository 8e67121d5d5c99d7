/- The abstract layer: contracts out of the kit's shelf. -/
import Derived.Test.YtcfmohcpfmedaaaDoorAbsLen
import Derived.Sort.Grow
import Derived.Deep.Draws
import Derived.Below
set_option linter.unusedVariables false
set_option linter.unusedSimpArgs false
namespace Go.Abs
open Go.RowKit
variable [GInv]

omit [GInv] in
theorem Grow.same (w : World) (D : Nat → Prop) (hD : ∀ b, D b → b < w.heap.size) : Grow w D [] w D :=
  ⟨rfl, rfl, rfl, Nat.le_refl _, fun _ _ _ => rfl, fun _ h => h, fun _ h => .inl h, hD⟩

omit [GInv] in
theorem CVs_vals {w : World} {D : Nat → Prop} : ∀ {vs xs : List Value}, CVs w D (vs.map .v) (fun _ => none) xs [] → xs = vs
  | [], xs, h => by simp only [List.map_nil, CVs] at h; exact h.1
  | v :: vs, xs, h => by
    simp only [List.map_cons, CVs] at h
    obtain ⟨x, xs', f1, f2, rfl, hf, h1, h2⟩ := h
    have hf := List.append_eq_nil_iff.1 hf.symm
    obtain ⟨rfl, rfl⟩ := hf
    simp only [CV] at h1
    rw [h1.1, CVs_vals h2]

/-- A library function of plain values, which leaves the world as it is. -/
theorem PCall.same {P : Program} {f : Nat} {vs : List Value} {res : V} {y : Value} (hc : callable P f = true) (hr : ∀ w D, CV w D res (fun _ => none) y [])
    (h : ∀ (w : World) (D : Nat → Prop), GInv.holds w D → Calls P f vs.toArray w fun e w' => e = .returned y ∧ w' = w) : PCall P f (vs.map .v) res := by
  refine ⟨hc, fun w D xs hD hg hxs => ?_⟩
  obtain rfl := CVs_vals hxs
  refine (h w D hg).mono ?_
  rintro e w' ⟨rfl, rfl⟩
  exact ⟨y, D, [], rfl, Grow.same _ _ hD, hr _ _, List.nodup_nil, by simp⟩

/-- A row without elements, nil or not. -/
theorem PCall.roNil {P : Program} {f s : Nat} {rest : List V} {res : V} (h : ∀ (a : Option Addr) (cap : Nat), PCall P f (.v (.slice a 0 cap) :: rest) res) : PCall P f (.ro s [] :: rest) res := by
  refine ⟨(h none 0).1, fun w D xs hD hg hxs => ?_⟩
  simp only [CVs] at hxs
  obtain ⟨x, xs', f1, f2, rfl, hf, hx, hr⟩ := hxs
  obtain ⟨rfl, rfl⟩ := List.append_eq_nil_iff.1 hf.symm
  simp only [CV] at hx
  have go : ∀ a cap, x = .slice a 0 cap → Calls P f (x :: xs').toArray w fun e w' => ∃ y D' fp, e = .returned y ∧ Grow w D [] w' D' ∧ CV w' D' res (fun _ => none) y fp ∧ fp.Nodup ∧ ∀ b, b ∈ fp → w.heap.size ≤ b ∧ b < w'.heap.size ∧ ¬ D' b := fun a cap e => by
    refine (h a cap).2 w D (x :: xs') hD hg ?_
    simp only [CVs]
    exact ⟨x, xs', [], [], rfl, rfl, by subst e; exact CV_mkv rfl, hr⟩
  obtain ⟨_, ⟨_, a, cap, e, _⟩ | ⟨b, o, cap, arr, e, _⟩⟩ := hx
  · exact go a cap e
  · exact go _ cap e

/-- The same, where draws are counted. -/
theorem PCall.drawn {P : Program} {f : Nat} {vs : List Value} {res : V} {y : Value} (hc : callable P f = true) (hr : ∀ w D, CV w D res (fun _ => none) y [])
    (h : ∀ (w : World) (D : Nat → Prop), GInv.holds w D → Calls P f vs.toArray w fun e w' => e = .returned y ∧ w'.os = w.os ∧ w'.tape = w.tape ∧ w'.output = w.output ∧ w'.heap = w.heap) : PCall P f (vs.map .v) res := by
  refine ⟨hc, fun w D xs hD hg hxs => ?_⟩
  obtain rfl := CVs_vals hxs
  refine (h w D hg).mono ?_
  rintro e w' ⟨rfl, h1, h2, h3, h4⟩
  exact ⟨y, D, [], rfl, ⟨h1, h2, h3, by rw [h4]; exact Nat.le_refl _, fun _ _ _ => by rw [h4], fun _ h => h, fun _ h => .inl h, by rw [h4]; exact hD⟩, hr _ _, List.nodup_nil, by simp⟩

/-- The same, where new blocks come in that nothing leads to. -/
theorem PCall.grown {P : Program} {f : Nat} {vs : List Value} {res : V} {y : Value} (hc : callable P f = true) (hr : ∀ w D, CV w D res (fun _ => none) y [])
    (h : ∀ (w : World) (D : Nat → Prop), GInv.holds w D → Calls P f vs.toArray w fun e w' => e = .returned y ∧ ∃ k os, w' = Sort.grow (w.drewN k) os) : PCall P f (vs.map .v) res := by
  refine ⟨hc, fun w D xs hD hg hxs => ?_⟩
  obtain rfl := CVs_vals hxs
  refine (h w D hg).mono ?_
  rintro e w' ⟨rfl, k, os, rfl⟩
  have hb : ∀ b, b < w.heap.size → (Sort.grow (w.drewN k) os).heap[b]? = w.heap[b]? := fun b hb => by
    show (w.heap ++ os)[b]? = _
    rw [Array.getElem?_append_left hb]
  refine ⟨y, D, [], rfl, ⟨rfl, rfl, rfl, ?_, fun b hb' _ => hb b hb', fun _ h => h, fun _ h => .inl h, fun b hb' => ?_⟩, hr _ _, List.nodup_nil, by simp⟩
  · show w.heap.size ≤ (w.heap ++ os).size
    simp
  · show b < (w.heap ++ os).size
    have := hD b hb'
    simp; omega

omit [GInv] in
theorem Grow.of_below {w w' : World} {D : Nat → Prop} (hD : ∀ b, D b → b < w.heap.size) (h : Below w.heap.size w w') : Grow w D [] w' D :=
  ⟨h.os, h.tape, h.output, h.size, fun b hb _ => h.block b hb, fun _ h => h, fun _ h => .inl h, fun b hb => Nat.lt_of_lt_of_le (hD b hb) h.size⟩
/-- A library function of plain values, behind which all old memory is as it was. -/
theorem PCall.below {P : Program} {f : Nat} {vs : List Value} {res : V} {y : Value} (hc : callable P f = true) (hr : ∀ w D, CV w D res (fun _ => none) y [])
    (h : ∀ (w : World) (D : Nat → Prop), GInv.holds w D → Calls P f vs.toArray w fun e w' => e = .returned y ∧ Below w.heap.size w w') : PCall P f (vs.map .v) res := by
  refine ⟨hc, fun w D xs hD hg hxs => ?_⟩
  obtain rfl := CVs_vals hxs
  refine (h w D hg).mono ?_
  rintro e w' ⟨rfl, hb⟩
  exact ⟨y, D, [], rfl, Grow.of_below hD hb, hr _ _, List.nodup_nil, by simp⟩

omit [GInv] in
theorem CR_texts {w : World} {D : Nat → Prop} {φ : Nat → Option Pl} : ∀ (l : List (List UInt8)) (xs : List Value) (f : List Nat), CR w D 1 (l.map S) φ xs f → ∀ (j : Nat) (x : List UInt8), l[j]? = some x → xs[j]? = some (.string (bs x))
  | [], xs, f, _, j, x, hj => by simp at hj
  | a :: l, xs, f, h, j, x, hj => by
    simp only [List.map_cons, CR] at h
    obtain ⟨v, rest, f1, f2, rfl, _, _, h1, h2⟩ := h
    have hv : v = .string (bs a) := by simp only [CV] at h1; exact h1.1
    subst hv
    have hc : (Value.string (bs a)).cells.toList = [Value.string (bs a)] := rfl
    rw [hc]
    cases j with
    | zero => simp at hj; subst hj; simp
    | succ j => simpa using CR_texts l rest f2 h2 j x (by simpa using hj)

/-- A library function of a row of texts and plain values, behind which all old memory is as it was. -/
theorem PCall.belowRow {P : Program} {f : Nat} {l : List (List UInt8)} {vs : List Value} {res : V} {y : Value} (hc : callable P f = true) (hr : ∀ w D, CV w D res (fun _ => none) y [])
    (h0 : l = [] → ∀ (w : World) (D : Nat → Prop) (a : Option Addr) (c : Nat), GInv.holds w D → Calls P f (.slice a 0 c :: vs).toArray w fun e w' => e = .returned y ∧ Below w.heap.size w w')
    (h : ∀ (w : World) (D : Nat → Prop) (b o c : Nat), GInv.holds w D → (∀ (j : Nat) x, l[j]? = some x → w.cell? ⟨b, o + j, none⟩ = some (.string (bs x))) → b < w.heap.size → l.length ≤ c →
      Calls P f (.slice (some ⟨b, o, none⟩) l.length c :: vs).toArray w fun e w' => e = .returned y ∧ Below w.heap.size w w') : PCall P f (.ro 1 (l.map S) :: vs.map .v) res := by
  refine ⟨hc, fun w D xs hD hg hxs => ?_⟩
  simp only [CVs] at hxs
  obtain ⟨x, xs', f1, f2, rfl, hf, hx, hv⟩ := hxs
  obtain ⟨rfl, rfl⟩ := List.append_eq_nil_iff.1 hf.symm
  obtain rfl := CVs_vals hv
  have fin : ∀ (e : Ending) (w' : World), (e = .returned y ∧ Below w.heap.size w w') → ∃ y D' fp, e = .returned y ∧ Grow w D [] w' D' ∧ CV w' D' res (fun _ => none) y fp ∧ fp.Nodup ∧ ∀ b, b ∈ fp → w.heap.size ≤ b ∧ b < w'.heap.size ∧ ¬ D' b := by
    rintro e w' ⟨rfl, hb⟩
    exact ⟨y, D, [], rfl, Grow.of_below hD hb, hr _ _, List.nodup_nil, by simp⟩
  simp only [CV] at hx
  obtain ⟨_, ⟨h1, a, c, rfl, _⟩ | ⟨b, o, c, arr, rfl, h2, _, h4, h5, h6, _⟩⟩ := hx
  · exact (h0 (by simpa using h1) w D a c hg).mono fin
  · rw [List.length_map] at h2 ⊢
    refine (h w D b o c hg (fun j x hj => ?_) (hD b h4) h2).mono fin
    have := CR_texts l _ _ h6 j x hj
    rw [List.getElem?_drop] at this
    rw [cell?_of_blk h5]
    simpa using this
end Go.Abs
