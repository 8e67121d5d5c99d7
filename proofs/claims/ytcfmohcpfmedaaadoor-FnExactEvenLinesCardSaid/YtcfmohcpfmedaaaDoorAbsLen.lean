/- The abstract layer: the lengths of rows that are handed to a function have a bound. -/
import Derived.Test.YtcfmohcpfmedaaaDoorAbsFold
set_option linter.unusedVariables false
set_option linter.unusedSimpArgs false
namespace Go.Abs
variable [GInv]

mutual
def lenP : V → Prop
  | .ro _ es => es.length ≤ 9223372036854775807 ∧ lenPs es
  | .rp _ es _ _ => lenPs es
  | .agg cs => lenPs cs
  | .v (.string b) => b.size ≤ 9223372036854775807
  | _ => True
def lenPs : List V → Prop
  | [] => True
  | c :: cs => lenP c ∧ lenPs cs
end

section
variable {w : World} {D : Nat → Prop}
omit [GInv] in
mutual
theorem CV_lens : ∀ (v : V) (φ : Nat → Option Pl) (x : Value) (fp : List Nat), CV w D v φ x fp → lenP v
  | .ro s es, φ, x, fp, h => by
    simp only [CV] at h
    obtain ⟨_, ⟨rfl, _⟩ | ⟨b, o, cap, arr, _, h1, h2, _, _, h3, _⟩⟩ := h
    · simp [lenP, lenPs]
    · simp only [lenP]
      exact ⟨by unfold maxLen at h2; omega, CR_lens s es _ _ _ h3⟩
  | .rp s es i j, φ, x, fp, h => by
    simp only [CV] at h
    obtain ⟨_, b, o, arr, _, _, _, h3, _⟩ := h
    simp only [lenP]
    exact CR_lens s es _ _ _ h3
  | .agg cs, φ, x, fp, h => by
    simp only [CV] at h
    obtain ⟨xs, _, h⟩ := h
    simp only [lenP]
    exact CVs_lens cs _ _ _ h
  | .v y, φ, x, fp, h => by
    simp only [CV] at h
    cases y <;> simp only [lenP]
    have := h.2.1
    simpa [one] using this
  | .undef, φ, x, fp, h | .ref _ _ _, φ, x, fp, h | .sl _ _ _, φ, x, fp, h | .own _ _, φ, x, fp, h | .tup _, φ, x, fp, h | .clo _ _, φ, x, fp, h => by simp [lenP]
theorem CVs_lens : ∀ (cs : List V) (φ : Nat → Option Pl) (xs : List Value) (fp : List Nat), CVs w D cs φ xs fp → lenPs cs
  | [], φ, xs, fp, h => trivial
  | c :: cs, φ, xs, fp, h => by
    simp only [CVs] at h
    obtain ⟨x, xs', f1, f2, _, _, h1, h2⟩ := h
    exact ⟨CV_lens c _ _ _ h1, CVs_lens cs _ _ _ h2⟩
theorem CR_lens (s : Nat) : ∀ (cs : List V) (φ : Nat → Option Pl) (xs : List Value) (fp : List Nat), CR w D s cs φ xs fp → lenPs cs
  | [], φ, xs, fp, h => trivial
  | c :: cs, φ, xs, fp, h => by
    simp only [CR] at h
    obtain ⟨x, rest, f1, f2, _, _, _, h1, h2⟩ := h
    exact ⟨CV_lens c _ _ _ h1, CR_lens s cs _ _ _ h2⟩
end
end

omit [GInv] in
theorem lenPs_mem : ∀ {cs : List V} {c : V}, lenPs cs → c ∈ cs → lenP c
  | [], c, _, hc => by simp at hc
  | d :: cs, c, h, hc => by
    rcases List.mem_cons.1 hc with rfl | hc
    · exact h.1
    · exact lenPs_mem h.2 hc
omit [GInv] in
theorem lenPs_map {α : Type} {f : α → V} {l : List α} (h : lenPs (l.map f)) {x : α} (hx : x ∈ l) : lenP (f x) := lenPs_mem h (List.mem_map_of_mem hx)
attribute [simp] lenP lenPs
omit [GInv] in
@[simp] theorem lenPs_ints (l : List Int) : lenPs (l.map I) := by induction l <;> simp_all

omit [GInv] in
theorem FnC.callable {P : Program} {f : Nat} {c : C} {rs : List RV} {n : Nat} (h : FnC P f c rs n) : Abs.callable P f = true := by
  obtain ⟨fn, code, ks, h1, h2, h3, _⟩ := h
  simp [Abs.callable, h1, h2, h3]

theorem PCall.lens {P : Program} {f : Nat} {args : List V} {res : V} (hc : callable P f = true) (h : lenPs args → PCall P f args res) : PCall P f args res :=
  ⟨hc, fun w D xs hD hg hxs => (h (CVs_lens _ _ _ _ hxs)).2 w D xs hD hg hxs⟩

/-- A function's contract; the lengths of the rows that it is handed have a bound. -/
theorem PCall.ofL {P : Program} {f : Nat} {c : C} {rs : List RV} {n : Nat} {args : List V} {res : V} (hf : FnC P f c rs n) (hlen : args.length ≤ n) (h : lenPs args → wpC P c (Ret rs res) (AS.init args)) : PCall P f args res :=
  PCall.lens hf.callable fun hl => PCall.of hf hlen (h hl)
theorem PCall.len {P : Program} {f : Nat} {c : C} {rs : List RV} {n : Nat} {args : List V} {res : V} (hf : FnC P f c rs n) (h : lenPs args → PCall P f args res) : PCall P f args res :=
  PCall.lens hf.callable h
end Go.Abs
