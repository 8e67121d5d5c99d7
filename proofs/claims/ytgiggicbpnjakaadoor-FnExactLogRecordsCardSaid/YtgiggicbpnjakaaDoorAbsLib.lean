/- The abstract layer: contracts out of the kit's shelf. -/
import Derived.Test.YtgiggicbpnjakaaDoorAbsLen
import Derived.Sort.Grow
import Derived.Deep.Draws
set_option linter.unusedVariables false
set_option linter.unusedSimpArgs false
namespace Go.Abs
variable [GInv]

omit [GInv] in
theorem Grow.same (w : World) (D : Nat → Prop) (hD : ∀ b, D b → b < w.heap.size) : Grow w D [] w D :=
  ⟨rfl, rfl, rfl, Nat.le_refl _, fun _ _ _ => rfl, fun _ h => h, fun _ h => .inl h, hD⟩

omit [GInv] in
theorem CVs_vals {w : World} {D : Nat → Prop} : ∀ {vs xs : List Value}, CVs w D (vs.map .v) (fun _ => none) xs [] → xs = vs
  | [], xs, h => by simp only [List.map_nil, CVs] at h; exact h.1
  | v :: vs, xs, h => by
    simp only [List.map_cons, CVs] at h
    obtain ⟨x, xs', f1, f2, rfl, hf, h1, h2⟩ := h
    have hf := List.append_eq_nil_iff.1 hf.symm
    obtain ⟨rfl, rfl⟩ := hf
    simp only [CV] at h1
    rw [h1.1, CVs_vals h2]

/-- A library function of plain values, which leaves the world as it is. -/
theorem PCall.same {P : Program} {f : Nat} {vs : List Value} {res : V} {y : Value} (hc : callable P f = true) (hr : ∀ w D, CV w D res (fun _ => none) y [])
    (h : ∀ (w : World) (D : Nat → Prop), GInv.holds w D → Calls P f vs.toArray w fun e w' => e = .returned y ∧ w' = w) : PCall P f (vs.map .v) res := by
  refine ⟨hc, fun w D xs hD hg hxs => ?_⟩
  obtain rfl := CVs_vals hxs
  refine (h w D hg).mono ?_
  rintro e w' ⟨rfl, rfl⟩
  exact ⟨y, D, [], rfl, Grow.same _ _ hD, hr _ _, List.nodup_nil, by simp⟩

/-- A row without elements, nil or not. -/
theorem PCall.roNil {P : Program} {f s : Nat} {rest : List V} {res : V} (h : ∀ (a : Option Addr) (cap : Nat), PCall P f (.v (.slice a 0 cap) :: rest) res) : PCall P f (.ro s [] :: rest) res := by
  refine ⟨(h none 0).1, fun w D xs hD hg hxs => ?_⟩
  simp only [CVs] at hxs
  obtain ⟨x, xs', f1, f2, rfl, hf, hx, hr⟩ := hxs
  obtain ⟨rfl, rfl⟩ := List.append_eq_nil_iff.1 hf.symm
  simp only [CV] at hx
  have go : ∀ a cap, x = .slice a 0 cap → Calls P f (x :: xs').toArray w fun e w' => ∃ y D' fp, e = .returned y ∧ Grow w D [] w' D' ∧ CV w' D' res (fun _ => none) y fp ∧ fp.Nodup ∧ ∀ b, b ∈ fp → w.heap.size ≤ b ∧ b < w'.heap.size ∧ ¬ D' b := fun a cap e => by
    refine (h a cap).2 w D (x :: xs') hD hg ?_
    simp only [CVs]
    exact ⟨x, xs', [], [], rfl, rfl, by subst e; exact CV_mkv rfl, hr⟩
  obtain ⟨_, ⟨_, a, cap, e, _⟩ | ⟨b, o, cap, arr, e, _⟩⟩ := hx
  · exact go a cap e
  · exact go _ cap e

/-- The same, where draws are counted. -/
theorem PCall.drawn {P : Program} {f : Nat} {vs : List Value} {res : V} {y : Value} (hc : callable P f = true) (hr : ∀ w D, CV w D res (fun _ => none) y [])
    (h : ∀ (w : World) (D : Nat → Prop), GInv.holds w D → Calls P f vs.toArray w fun e w' => e = .returned y ∧ w'.os = w.os ∧ w'.tape = w.tape ∧ w'.output = w.output ∧ w'.heap = w.heap) : PCall P f (vs.map .v) res := by
  refine ⟨hc, fun w D xs hD hg hxs => ?_⟩
  obtain rfl := CVs_vals hxs
  refine (h w D hg).mono ?_
  rintro e w' ⟨rfl, h1, h2, h3, h4⟩
  exact ⟨y, D, [], rfl, ⟨h1, h2, h3, by rw [h4]; exact Nat.le_refl _, fun _ _ _ => by rw [h4], fun _ h => h, fun _ h => .inl h, by rw [h4]; exact hD⟩, hr _ _, List.nodup_nil, by simp⟩

/-- The same, where new blocks come in that nothing leads to. -/
theorem PCall.grown {P : Program} {f : Nat} {vs : List Value} {res : V} {y : Value} (hc : callable P f = true) (hr : ∀ w D, CV w D res (fun _ => none) y [])
    (h : ∀ (w : World) (D : Nat → Prop), GInv.holds w D → Calls P f vs.toArray w fun e w' => e = .returned y ∧ ∃ k os, w' = Sort.grow (w.drewN k) os) : PCall P f (vs.map .v) res := by
  refine ⟨hc, fun w D xs hD hg hxs => ?_⟩
  obtain rfl := CVs_vals hxs
  refine (h w D hg).mono ?_
  rintro e w' ⟨rfl, k, os, rfl⟩
  have hb : ∀ b, b < w.heap.size → (Sort.grow (w.drewN k) os).heap[b]? = w.heap[b]? := fun b hb => by
    show (w.heap ++ os)[b]? = _
    rw [Array.getElem?_append_left hb]
  refine ⟨y, D, [], rfl, ⟨rfl, rfl, rfl, ?_, fun b hb' _ => hb b hb', fun _ h => h, fun _ h => .inl h, fun b hb' => ?_⟩, hr _ _, List.nodup_nil, by simp⟩
  · show w.heap.size ≤ (w.heap ++ os).size
    simp
  · show b < (w.heap ++ os).size
    have := hD b hb'
    simp; omega
end Go.Abs
